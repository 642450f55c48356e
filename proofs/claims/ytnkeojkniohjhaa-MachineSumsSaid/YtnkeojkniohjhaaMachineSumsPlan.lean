/- The plan for the law MachineSums. -/
import Derived.Test.YtnkeojkniohjhaaMachineSumsPlan1
import Derived.Test.YtnkeojkniohjhaaMachineSumsPlan2
import Derived.KernelRfl
namespace Go.Proofs.Ytnkeojkniohjhaa.machineSums
open Go Go.Ev
noncomputable section

def v0 : SI := .var 0
def v1 : SI := .var 1
def v2 : SI := .var 2
def v3 : SI := .var 3
def v4 : SI := .var 4
def v5 : SI := .var 5
def v6 : SI := .var 6
def v7 : SI := .var 7
def v8 : SI := .var 8
def v9 : SI := .var 9
def v10 : SI := .var 10
def v11 : SI := .var 11
def v12 : SI := .var 12
def v13 : SI := .var 13
def v14 : SI := .var 14
def v15 : SI := .var 15
def v16 : SI := .var 16
def v17 : SI := .var 17
def v18 : SI := .var 18
def v19 : SI := .var 19
def v20 : SI := .var 20
def v21 : SI := .var 21
def v22 : SI := .var 22
def v23 : SI := .var 23
def v24 : SI := .var 24
def v25 : SI := .var 25
def v26 : SI := .var 26
def v27 : SI := .var 27
def v28 : SI := .var 28
def v29 : SI := .var 29
def v30 : SI := .var 30
def v31 : SI := .var 31
def v32 : SI := .var 32
def v33 : SI := .var 33
def v34 : SI := .var 34
def v35 : SI := .var 35
def v36 : SI := .var 36
def v37 : SI := .var 37
def v38 : SI := .var 38
def v39 : SI := .var 39
def v40 : SI := .var 40
def v41 : SI := .var 41
def v42 : SI := .var 42
def v43 : SI := .var 43
def v44 : SI := .var 44
def v45 : SI := .var 45
def v46 : SI := .var 46
def v47 : SI := .var 47
def v48 : SI := .var 48
def v49 : SI := .var 49
def v50 : SI := .var 50
def v51 : SI := .var 51
def v52 : SI := .var 52
def v53 : SI := .var 53
def v54 : SI := .var 54
def v55 : SI := .var 55
def v56 : SI := .var 56
def v57 : SI := .var 57
def v58 : SI := .var 58
def v59 : SI := .var 59
def v60 : SI := .var 60
def v61 : SI := .var 61
def v62 : SI := .var 62
def v63 : SI := .var 63
def v64 : SI := .var 64
def v65 : SI := .var 65
def v66 : SI := .var 66
def v67 : SI := .var 67
def v68 : SI := .var 68
def v69 : SI := .var 69
def v70 : SI := .var 70
def v71 : SI := .var 71
def v72 : SI := .var 72
def v73 : SI := .var 73
def v74 : SI := .var 74
def v75 : SI := .var 75
def v76 : SI := .var 76
def r0 : SI := .row 0
def r1 : SI := .row 1
def r2 : SI := .row 2
def r3 : SI := .row 3
def r4 : SI := .row 4
def r5 : SI := .row 5
def r6 : SI := .row 6
def r7 : SI := .row 7
def r8 : SI := .row 8
def r9 : SI := .row 9
def r10 : SI := .row 10
def r11 : SI := .row 11
def r12 : SI := .row 12
def r13 : SI := .row 13
def r14 : SI := .row 14
def n0 : SI := .lit 0
def n1 : SI := .lit 1
def n2 : SI := .lit 2
def n3 : SI := .lit 3
def n4 : SI := .lit 4
def n5 : SI := .lit 5
def n6 : SI := .lit 6
def n7 : SI := .lit 7
def n8 : SI := .lit 8
def n9 : SI := .lit 9
def mkI : Nat → Nat → List (Nat × SI) → List SI
  | 0,_,_ => []
  | n + 1,i,[] => .var i :: mkI n (i + 1) []
  | n + 1,i,(j,x) :: r => bif Nat.beq i j then x :: mkI n (i + 1) r else .var i :: mkI n (i + 1) ((j,x) :: r)
def mkD : List SI → Nat → List (Nat × SI) → List SI
  | l,_,[] => l
  | [],_,_ => []
  | x :: l,i,(j,y) :: r => bif Nat.beq i j then y :: mkD l (i + 1) r else x :: mkD l (i + 1) ((j,y) :: r)
def shape : List (Bool × List CS) := [(false,[.slices [(.int .u8)] 5 31]),(false,[.slice [(.int .i64),(.int .i64)] 38])]
def h8 : SB × Bool := ((.lss n0 v11),false)
def h14 : SB × Bool := ((.lss n0 v11),true)
def h15 : SB × Bool := ((.lss n0 v12),false)
def h16 : SB × Bool := ((.lss n0 v12),true)
def h17 : SB × Bool := ((.lss n0 v14),false)
def h18 : SB × Bool := ((.lss n0 v14),true)
def h19 : SB × Bool := ((.lss n0 v13),false)
def h20 : SB × Bool := ((.lss n0 v13),true)
def h22 : SB × Bool := ((.eql (.rem (.sel .u64 r0 (.mul v9 n2)) n6) n0),false)
def h23 : SB × Bool := ((.lss n0 v15),false)
def h24 : SB × Bool := ((.lss n0 v15),true)
def h30 : SB × Bool := ((.lss n0 v10),true)
def h32 : SB × Bool := ((.lss n0 v10),false)
def h33 : SB × Bool := ((.lss v9 (.lit 300)),true)
def h36 : SB × Bool := ((.eql (.rem (.sel .u64 r0 n0) n6) n0),false)
def h39 : SB × Bool := ((.eql (.rem (.sel .u64 r0 (.mul v9 n2)) n6) n1),false)
def h40 : SB × Bool := ((.lss v9 v3),true)
def h48 : SB × Bool := ((.eql (.rem (.sel .u64 r0 (.mul v10 n2)) n6) n0),false)
def h51 : SB × Bool := ((.lss (.rem (.sel .u64 r0 (.mul v9 n2)) n6) n5),true)
def h53 : SB × Bool := ((.eql (.rem (.sel .u64 r0 n0) n6) n1),false)
def h65 : SB × Bool := ((.var 0),true)
def h67 : SB × Bool := ((.eql (.rem (.sel .u64 r0 (.mul v10 n2)) n6) n1),false)
def h70 : SB × Bool := ((.eql (.rem (.sel .u64 r0 (.mul v9 n2)) n6) n0),true)
def h71 : SB × Bool := ((.lss (.rem (.sel .u64 r0 (.mul v9 n2)) n6) n4),true)
def h72 : SB × Bool := ((.lss n0 v9),true)
def h78 : SB × Bool := ((.lss n0 v9),false)
def h89 : SB × Bool := ((.lss v10 (.lit 300)),true)
def h90 : SB × Bool := ((.eql (.rem (.sel .u64 r0 (.mul v10 n2)) n6) n2),false)
def h91 : SB × Bool := ((.lss n0 v3),true)
def h97 : SB × Bool := ((.eql (.rem (.sel .u64 r0 (.mul v9 n2)) n6) n2),false)
def h98 : SB × Bool := ((.lss (.rem (.sel .u64 r0 (.mul v9 n2)) n6) n3),true)
def h99 : SB × Bool := ((.eql (.rem (.sel .u64 r0 (.mul v9 n2)) n6) n1),true)
def h101 : SB × Bool := ((.lss n0 v8),false)
def h102 : SB × Bool := ((.lss n0 v8),true)
def h107 : SB × Bool := ((.eql (.rem (.sel .u64 r0 n0) n6) n2),false)
def h113 : SB × Bool := ((.lss n0 v7),true)
def h114 : SB × Bool := ((.lss n0 v7),false)
def h118 : SB × Bool := ((.lss v10 v4),true)
def h120 : SB × Bool := ((.eql (.rem (.sel .u64 r0 n0) n6) n0),true)
def h121 : SB × Bool := ((.lss (.rem (.sel .u64 r0 n0) n6) n5),true)
def h122 : SB × Bool := ((.eql (.rem (.sel .u64 r0 (.mul v10 n2)) n6) n3),false)
def h123 : SB × Bool := ((.lss (.rem (.sel .u64 r0 (.mul v9 n2)) n6) n2),true)
def h124 : SB × Bool := ((.eql (.rem (.sel .u64 r0 (.mul v9 n2)) n6) n2),true)
def h130 : SB × Bool := ((.eql (.rem (.sel .u64 r0 n0) n6) n1),true)
def h131 : SB × Bool := ((.lss (.rem (.sel .u64 r0 n0) n6) n4),true)
def h136 : SB × Bool := ((.lss n0 v4),true)
def h139 : SB × Bool := ((.eql (.rem (.sel .u64 r0 n0) n6) n3),false)
def h141 : SB × Bool := ((.eql (.rem (.sel .u64 r0 n0) n6) n2),true)
def h142 : SB × Bool := ((.lss (.rem (.sel .u64 r0 n0) n6) n3),true)
def h153 : SB × Bool := ((.eql (.rem (.sel .u64 r0 (.mul v10 n2)) n6) n4),false)
def h154 : SB × Bool := ((.eql (.rem (.sel .u64 r0 (.mul v9 n2)) n6) n3),false)
def h155 : SB × Bool := ((.eql (.rem (.sel .u64 r0 (.mul v10 n2)) n6) n0),true)
def h156 : SB × Bool := ((.eql (.rem (.sel .u64 r0 (.mul v10 n2)) n6) n1),true)
def h157 : SB × Bool := ((.eql (.rem (.sel .u64 r0 (.mul v10 n2)) n6) n2),true)
def h158 : SB × Bool := ((.eql (.rem (.sel .u64 r0 (.mul v10 n2)) n6) n3),true)
def h159 : SB × Bool := ((.eql (.rem (.sel .u64 r0 (.mul v10 n2)) n6) n4),true)
def h161 : SB × Bool := ((.eql (.rem (.sel .u64 r0 (.mul v9 n2)) n6) n3),true)
def h168 : SB × Bool := ((.var 0),false)
def h171 : SB × Bool := ((.eql (.rem (.sel .u64 r0 n0) n6) n3),true)
def h172 : SB × Bool := ((.lss (.rem (.sel .u64 r0 n0) n6) n2),true)
def h236 : SB × Bool := ((.lss n0 v1),true)
def h237 : SB × Bool := ((.lss n1 v1),true)
def h238 : SB × Bool := ((.lss n2 v1),true)
def h239 : SB × Bool := ((.lss n3 v1),true)
def h240 : SB × Bool := ((.lss n4 v1),true)
def h241 : SB × Bool := ((.lss n5 v1),true)
def h296 : SB × Bool := ((.lss v9 (.lit 300)),false)
def h307 : SB × Bool := ((.lss n0 v3),false)
def is_0 : List SI := mkI 32 0 [(3,v27),(4,v28),(5,v29),(6,n0),(7,n0),(8,v3),(9,v4),(10,v5),(11,v6),(12,v7),(13,v8),(14,v9),(15,v10),(16,v11),(17,v12),(18,v13),(19,v14),(20,v15),(21,v16),(22,v17),(23,v18),(24,v19),(25,v20),(26,v21),(27,v22),(28,v23),(29,v24),(30,v25),(31,v26)]
def is_18 : List SI := mkI 29 0 (ap [(0,n0),(1,n0),(2,v27),(3,v28),(4,v29)] (sq 24 fun i => ((5+i),n0)))
def i0_1 : List SI := mkI 34 0 [(32,v7),(33,n0)]
def i1_2 : List SI := mkI 35 0 [(34,n0)]
def i2_3 : List SI := mkI 36 0 [(35,n0)]
def i3_4 : List SI := mkI 37 0 [(36,n0)]
def i4_5 : List SI := mkI 38 0 [(37,n0)]
def i5_6 : List SI := mkI 38 0 []
def i6_7 : List SI := mkI 48 0 (ap [(8,n1),(9,n0),(10,n0),(11,v8),(12,v9),(13,v10),(14,v11),(15,v12),(16,v13),(17,v14),(18,v15),(19,v16),(20,v17),(21,v18),(22,v19),(23,v20),(24,v21),(25,v22),(26,v23),(27,v24),(28,v25),(29,v26),(30,v27),(31,v28),(32,v29),(33,v30),(34,v31),(35,n2)] (ap (sq 6 fun i => ((36+i),n0)) [(42,v32),(43,v33),(44,v34),(45,v35),(46,v36),(47,v37)]))
def i6_39 : List SI := mkI 77 0 (ap [(0,v6),(1,v7)] (ap (sq 9 fun i => ((2+i),n0)) [(11,v32),(12,v33),(13,v34),(14,v35),(15,v36),(16,v37),(17,(.sel .u8 r1 n0)),(18,(.sel .u8 r2 n0)),(19,(.sel .u8 r3 n0)),(20,(.sel .u8 r4 n0)),(21,(.sel .u8 r5 n0)),(22,(.sel .u8 r6 n0)),(23,(.sel .u8 r1 n1)),(24,(.sel .u8 r1 n2)),(25,(.sel .u8 r1 n3)),(26,(.sel .u8 r1 n4)),(27,(.sel .u8 r1 n5)),(28,(.sel .u8 r1 n6)),(29,(.sel .u8 r1 n7)),(30,(.sel .u8 r1 n8)),(31,(.sel .u8 r1 n9)),(32,(.sel .u8 r2 n1)),(33,(.sel .u8 r2 n2)),(34,(.sel .u8 r2 n3)),(35,(.sel .u8 r2 n4)),(36,(.sel .u8 r2 n5)),(37,(.sel .u8 r2 n6)),(38,(.sel .u8 r2 n7)),(39,(.sel .u8 r2 n8)),(40,(.sel .u8 r2 n9)),(41,(.sel .u8 r3 n1)),(42,(.sel .u8 r3 n2)),(43,(.sel .u8 r3 n3)),(44,(.sel .u8 r3 n4)),(45,(.sel .u8 r3 n5)),(46,(.sel .u8 r3 n6)),(47,(.sel .u8 r3 n7)),(48,(.sel .u8 r3 n8)),(49,(.sel .u8 r3 n9)),(50,(.sel .u8 r4 n1)),(51,(.sel .u8 r4 n2)),(52,(.sel .u8 r4 n3)),(53,(.sel .u8 r4 n4)),(54,(.sel .u8 r4 n5)),(55,(.sel .u8 r4 n6)),(56,(.sel .u8 r4 n7)),(57,(.sel .u8 r4 n8)),(58,(.sel .u8 r4 n9)),(59,(.sel .u8 r5 n1)),(60,(.sel .u8 r5 n2)),(61,(.sel .u8 r5 n3)),(62,(.sel .u8 r5 n4)),(63,(.sel .u8 r5 n5)),(64,(.sel .u8 r5 n6)),(65,(.sel .u8 r5 n7)),(66,(.sel .u8 r5 n8)),(67,(.sel .u8 r5 n9)),(68,(.sel .u8 r6 n1)),(69,(.sel .u8 r6 n2)),(70,(.sel .u8 r6 n3)),(71,(.sel .u8 r6 n4)),(72,(.sel .u8 r6 n5)),(73,(.sel .u8 r6 n6)),(74,(.sel .u8 r6 n7)),(75,(.sel .u8 r6 n8)),(76,(.sel .u8 r6 n9))]))
def i7_38 : List SI := mkI 48 0 [(10,(.add v10 n1))]
def i8_9 : List SI := mkI 45 0 (ap [(7,n1),(8,n0),(9,n0),(10,v7),(11,v8),(12,v9),(13,v10),(14,v11),(15,v12),(16,v13),(17,v14),(18,v15),(19,v16),(20,v17),(21,v18),(22,v19),(23,v20),(24,v21),(25,v22),(26,v23),(27,v24),(28,v25),(29,v26),(30,v27),(31,v28),(32,v29),(33,v30),(34,n2)] (ap (sq 5 fun i => ((35+i),n0)) [(40,v31),(41,v32),(42,v33),(43,v34),(44,v35)]))
def i8_36 : List SI := mkI 65 0 (ap [(0,v5),(1,v6)] (ap (sq 8 fun i => ((2+i),n0)) [(10,v31),(11,v32),(12,v33),(13,v34),(14,v35),(15,(.sel .u8 r1 n0)),(16,(.sel .u8 r2 n0)),(17,(.sel .u8 r3 n0)),(18,(.sel .u8 r4 n0)),(19,(.sel .u8 r5 n0)),(20,(.sel .u8 r1 n1)),(21,(.sel .u8 r1 n2)),(22,(.sel .u8 r1 n3)),(23,(.sel .u8 r1 n4)),(24,(.sel .u8 r1 n5)),(25,(.sel .u8 r1 n6)),(26,(.sel .u8 r1 n7)),(27,(.sel .u8 r1 n8)),(28,(.sel .u8 r1 n9)),(29,(.sel .u8 r2 n1)),(30,(.sel .u8 r2 n2)),(31,(.sel .u8 r2 n3)),(32,(.sel .u8 r2 n4)),(33,(.sel .u8 r2 n5)),(34,(.sel .u8 r2 n6)),(35,(.sel .u8 r2 n7)),(36,(.sel .u8 r2 n8)),(37,(.sel .u8 r2 n9)),(38,(.sel .u8 r3 n1)),(39,(.sel .u8 r3 n2)),(40,(.sel .u8 r3 n3)),(41,(.sel .u8 r3 n4)),(42,(.sel .u8 r3 n5)),(43,(.sel .u8 r3 n6)),(44,(.sel .u8 r3 n7)),(45,(.sel .u8 r3 n8)),(46,(.sel .u8 r3 n9)),(47,(.sel .u8 r4 n1)),(48,(.sel .u8 r4 n2)),(49,(.sel .u8 r4 n3)),(50,(.sel .u8 r4 n4)),(51,(.sel .u8 r4 n5)),(52,(.sel .u8 r4 n6)),(53,(.sel .u8 r4 n7)),(54,(.sel .u8 r4 n8)),(55,(.sel .u8 r4 n9)),(56,(.sel .u8 r5 n1)),(57,(.sel .u8 r5 n2)),(58,(.sel .u8 r5 n3)),(59,(.sel .u8 r5 n4)),(60,(.sel .u8 r5 n5)),(61,(.sel .u8 r5 n6)),(62,(.sel .u8 r5 n7)),(63,(.sel .u8 r5 n8)),(64,(.sel .u8 r5 n9))]))
def i9_35 : List SI := mkI 45 0 [(9,(.add v9 n1))]
def i10_11 : List SI := mkI 43 0 [(7,n1),(8,n0),(9,n0),(10,v7),(11,v8),(12,v9),(13,v10),(14,v11),(15,v12),(16,v13),(17,v14),(18,v15),(19,v16),(20,v17),(21,v18),(22,v19),(23,v20),(24,v21),(25,v22),(26,v23),(27,v24),(28,v25),(29,v26),(30,v27),(31,v28),(32,v29),(33,v30),(34,n2),(35,n0),(36,n0),(37,n0),(38,n0),(39,v31),(40,v32),(41,v33),(42,v34)]
def i10_33 : List SI := mkI 53 0 (ap [(0,v5),(1,v6)] (ap (sq 7 fun i => ((2+i),n0)) [(9,v31),(10,v32),(11,v33),(12,v34),(13,(.sel .u8 r1 n0)),(14,(.sel .u8 r2 n0)),(15,(.sel .u8 r3 n0)),(16,(.sel .u8 r4 n0)),(17,(.sel .u8 r1 n1)),(18,(.sel .u8 r1 n2)),(19,(.sel .u8 r1 n3)),(20,(.sel .u8 r1 n4)),(21,(.sel .u8 r1 n5)),(22,(.sel .u8 r1 n6)),(23,(.sel .u8 r1 n7)),(24,(.sel .u8 r1 n8)),(25,(.sel .u8 r1 n9)),(26,(.sel .u8 r2 n1)),(27,(.sel .u8 r2 n2)),(28,(.sel .u8 r2 n3)),(29,(.sel .u8 r2 n4)),(30,(.sel .u8 r2 n5)),(31,(.sel .u8 r2 n6)),(32,(.sel .u8 r2 n7)),(33,(.sel .u8 r2 n8)),(34,(.sel .u8 r2 n9)),(35,(.sel .u8 r3 n1)),(36,(.sel .u8 r3 n2)),(37,(.sel .u8 r3 n3)),(38,(.sel .u8 r3 n4)),(39,(.sel .u8 r3 n5)),(40,(.sel .u8 r3 n6)),(41,(.sel .u8 r3 n7)),(42,(.sel .u8 r3 n8)),(43,(.sel .u8 r3 n9)),(44,(.sel .u8 r4 n1)),(45,(.sel .u8 r4 n2)),(46,(.sel .u8 r4 n3)),(47,(.sel .u8 r4 n4)),(48,(.sel .u8 r4 n5)),(49,(.sel .u8 r4 n6)),(50,(.sel .u8 r4 n7)),(51,(.sel .u8 r4 n8)),(52,(.sel .u8 r4 n9))]))
def i11_32 : List SI := mkI 43 0 [(9,(.add v9 n1))]
def i12_13 : List SI := mkI 41 0 [(7,n1),(8,n0),(9,n0),(10,v7),(11,v8),(12,v9),(13,v10),(14,v11),(15,v12),(16,v13),(17,v14),(18,v15),(19,v16),(20,v17),(21,v18),(22,v19),(23,v20),(24,v21),(25,v22),(26,v23),(27,v24),(28,v25),(29,v26),(30,v27),(31,v28),(32,v29),(33,v30),(34,n2),(35,n0),(36,n0),(37,n0),(38,v31),(39,v32),(40,v33)]
def i12_30 : List SI := mkI 41 0 (ap [(0,v5),(1,v6)] (ap (sq 6 fun i => ((2+i),n0)) [(8,v31),(9,v32),(10,v33),(11,(.sel .u8 r1 n0)),(12,(.sel .u8 r2 n0)),(13,(.sel .u8 r3 n0)),(14,(.sel .u8 r1 n1)),(15,(.sel .u8 r1 n2)),(16,(.sel .u8 r1 n3)),(17,(.sel .u8 r1 n4)),(18,(.sel .u8 r1 n5)),(19,(.sel .u8 r1 n6)),(20,(.sel .u8 r1 n7)),(21,(.sel .u8 r1 n8)),(22,(.sel .u8 r1 n9)),(23,(.sel .u8 r2 n1)),(24,(.sel .u8 r2 n2)),(25,(.sel .u8 r2 n3)),(26,(.sel .u8 r2 n4)),(27,(.sel .u8 r2 n5)),(28,(.sel .u8 r2 n6)),(29,(.sel .u8 r2 n7)),(30,(.sel .u8 r2 n8)),(31,(.sel .u8 r2 n9)),(32,(.sel .u8 r3 n1)),(33,(.sel .u8 r3 n2)),(34,(.sel .u8 r3 n3)),(35,(.sel .u8 r3 n4)),(36,(.sel .u8 r3 n5)),(37,(.sel .u8 r3 n6)),(38,(.sel .u8 r3 n7)),(39,(.sel .u8 r3 n8)),(40,(.sel .u8 r3 n9))]))
def i13_29 : List SI := mkI 41 0 [(9,(.add v9 n1))]
def i14_15 : List SI := mkI 39 0 [(7,n1),(8,n0),(9,n0),(10,v7),(11,v8),(12,v9),(13,v10),(14,v11),(15,v12),(16,v13),(17,v14),(18,v15),(19,v16),(20,v17),(21,v18),(22,v19),(23,v20),(24,v21),(25,v22),(26,v23),(27,v24),(28,v25),(29,v26),(30,v27),(31,v28),(32,v29),(33,v30),(34,n2),(35,n0),(36,n0),(37,v31),(38,v32)]
def i14_27 : List SI := mkI 29 0 (ap [(0,v5),(1,v6)] (ap (sq 5 fun i => ((2+i),n0)) [(7,v31),(8,v32),(9,(.sel .u8 r1 n0)),(10,(.sel .u8 r2 n0)),(11,(.sel .u8 r1 n1)),(12,(.sel .u8 r1 n2)),(13,(.sel .u8 r1 n3)),(14,(.sel .u8 r1 n4)),(15,(.sel .u8 r1 n5)),(16,(.sel .u8 r1 n6)),(17,(.sel .u8 r1 n7)),(18,(.sel .u8 r1 n8)),(19,(.sel .u8 r1 n9)),(20,(.sel .u8 r2 n1)),(21,(.sel .u8 r2 n2)),(22,(.sel .u8 r2 n3)),(23,(.sel .u8 r2 n4)),(24,(.sel .u8 r2 n5)),(25,(.sel .u8 r2 n6)),(26,(.sel .u8 r2 n7)),(27,(.sel .u8 r2 n8)),(28,(.sel .u8 r2 n9))]))
def i15_26 : List SI := mkI 39 0 [(9,(.add v9 n1))]
def i16_17 : List SI := mkI 36 0 [(7,n1),(8,(.sel .u8 r1 n0)),(9,n0),(10,v7),(11,v8),(12,v9),(13,v10),(14,v11),(15,v12),(16,v13),(17,v14),(18,v15),(19,v16),(20,v17),(21,v18),(22,v19),(23,v20),(24,v21),(25,v22),(26,v23),(27,v24),(28,v25),(29,v26),(30,v27),(31,v28),(32,v29),(33,v30),(34,n2),(35,(.add v6 (.lit (-1))))]
def i16_24 : List SI := mkI 16 0 [(0,v5),(1,v6),(2,n0),(3,n0),(4,n0),(5,v6),(6,(.sel .u8 r1 n0)),(7,(.sel .u8 r1 n1)),(8,(.sel .u8 r1 n2)),(9,(.sel .u8 r1 n3)),(10,(.sel .u8 r1 n4)),(11,(.sel .u8 r1 n5)),(12,(.sel .u8 r1 n6)),(13,(.sel .u8 r1 n7)),(14,(.sel .u8 r1 n8)),(15,(.sel .u8 r1 n9))]
def i17_23 : List SI := mkI 36 0 [(9,(.add v9 n1))]
def i23_17 : List SI := mkI 36 0 [(7,(.add v7 n1)),(8,(.add v8 (.sel .u8 r1 v7))),(34,(.wrap .i64 (.add (.wrap .i64 (.add v34 n1)) n1))),(35,(.add v35 (.lit (-1))))]
def i23_24 : List SI := mkI 16 0 [(0,v5),(1,v6),(2,v7),(3,v34),(4,v8),(5,v35),(6,(.sel .u8 r1 v7)),(7,(.sel .u8 r1 (.add v7 n1))),(8,(.sel .u8 r1 (.add v7 n2))),(9,(.sel .u8 r1 (.add v7 n3))),(10,(.sel .u8 r1 (.add v7 n4))),(11,(.sel .u8 r1 (.add v7 n5))),(12,(.sel .u8 r1 (.add v7 n6))),(13,(.sel .u8 r1 (.add v7 n7))),(14,(.sel .u8 r1 (.add v7 n8))),(15,(.sel .u8 r1 (.add v7 n9)))]
def i24_25 : List SI := mkI 15 0 []
def i24_46 : List SI := mkI 15 0 [(2,(.add v2 n1)),(3,(.wrap .i64 (.add v3 n1))),(4,(.add v4 v6)),(5,(.add v5 (.lit (-1)))),(6,v7),(7,v8),(8,v9),(9,v10),(10,v11),(11,v12),(12,v13),(13,v14),(14,v15)]
def i26_15 : List SI := mkI 39 0 [(7,(.add v7 n1)),(8,(.add v8 (.sel .u8 r1 v35))),(34,(.wrap .i64 (.add (.wrap .i64 (.add v34 n1)) n1)))]
def i26_27 : List SI := mkI 29 0 [(0,v5),(1,v6),(2,v7),(3,v34),(4,v8),(5,v35),(6,v36),(7,v37),(8,v38),(9,(.sel .u8 r1 v35)),(10,(.sel .u8 r2 v36)),(11,(.sel .u8 r1 (.add v35 n1))),(12,(.sel .u8 r1 (.add v35 n2))),(13,(.sel .u8 r1 (.add v35 n3))),(14,(.sel .u8 r1 (.add v35 n4))),(15,(.sel .u8 r1 (.add v35 n5))),(16,(.sel .u8 r1 (.add v35 n6))),(17,(.sel .u8 r1 (.add v35 n7))),(18,(.sel .u8 r1 (.add v35 n8))),(19,(.sel .u8 r1 (.add v35 n9))),(20,(.sel .u8 r2 (.add v36 n1))),(21,(.sel .u8 r2 (.add v36 n2))),(22,(.sel .u8 r2 (.add v36 n3))),(23,(.sel .u8 r2 (.add v36 n4))),(24,(.sel .u8 r2 (.add v36 n5))),(25,(.sel .u8 r2 (.add v36 n6))),(26,(.sel .u8 r2 (.add v36 n7))),(27,(.sel .u8 r2 (.add v36 n8))),(28,(.sel .u8 r2 (.add v36 n9)))]
def i27_28 : List SI := mkI 29 0 []
def i27_45 : List SI := mkI 28 0 (ap [(2,(.add v2 n1)),(3,(.wrap .i64 (.add v3 n1))),(4,(.add v4 v9)),(5,(.add v5 n1)),(7,(.add v7 (.lit (-1))))] (sq 19 fun i => ((9+i),n0)))
def i29_13 : List SI := mkI 41 0 [(7,(.add v7 n1)),(8,(.add v8 (.sel .u8 r1 v35))),(34,(.wrap .i64 (.add (.wrap .i64 (.add v34 n1)) n1)))]
def i29_30 : List SI := mkI 41 0 [(0,v5),(1,v6),(2,v7),(3,v34),(4,v8),(5,v35),(6,v36),(7,v37),(8,v38),(9,v39),(10,v40),(11,(.sel .u8 r1 v35)),(12,(.sel .u8 r2 v36)),(13,(.sel .u8 r3 v37)),(14,(.sel .u8 r1 (.add v35 n1))),(15,(.sel .u8 r1 (.add v35 n2))),(16,(.sel .u8 r1 (.add v35 n3))),(17,(.sel .u8 r1 (.add v35 n4))),(18,(.sel .u8 r1 (.add v35 n5))),(19,(.sel .u8 r1 (.add v35 n6))),(20,(.sel .u8 r1 (.add v35 n7))),(21,(.sel .u8 r1 (.add v35 n8))),(22,(.sel .u8 r1 (.add v35 n9))),(23,(.sel .u8 r2 (.add v36 n1))),(24,(.sel .u8 r2 (.add v36 n2))),(25,(.sel .u8 r2 (.add v36 n3))),(26,(.sel .u8 r2 (.add v36 n4))),(27,(.sel .u8 r2 (.add v36 n5))),(28,(.sel .u8 r2 (.add v36 n6))),(29,(.sel .u8 r2 (.add v36 n7))),(30,(.sel .u8 r2 (.add v36 n8))),(31,(.sel .u8 r2 (.add v36 n9))),(32,(.sel .u8 r3 (.add v37 n1))),(33,(.sel .u8 r3 (.add v37 n2))),(34,(.sel .u8 r3 (.add v37 n3))),(35,(.sel .u8 r3 (.add v37 n4))),(36,(.sel .u8 r3 (.add v37 n5))),(37,(.sel .u8 r3 (.add v37 n6))),(38,(.sel .u8 r3 (.add v37 n7))),(39,(.sel .u8 r3 (.add v37 n8))),(40,(.sel .u8 r3 (.add v37 n9)))]
def i30_31 : List SI := mkI 41 0 []
def i30_44 : List SI := mkI 40 0 (ap [(2,(.add v2 n1)),(3,(.wrap .i64 (.add v3 n1))),(4,(.add v4 v11)),(8,(.add v8 (.lit (-1))))] (sq 29 fun i => ((11+i),n0)))
def i32_11 : List SI := mkI 43 0 [(7,(.add v7 n1)),(34,(.wrap .i64 (.add (.wrap .i64 (.add v34 n1)) n1)))]
def i32_33 : List SI := mkI 53 0 [(0,v5),(1,v6),(2,v7),(3,v34),(4,v8),(5,v35),(6,v36),(7,v37),(8,v38),(9,v39),(10,v40),(11,v41),(12,v42),(13,(.sel .u8 r1 v35)),(14,(.sel .u8 r2 v36)),(15,(.sel .u8 r3 v37)),(16,(.sel .u8 r4 v38)),(17,(.sel .u8 r1 (.add v35 n1))),(18,(.sel .u8 r1 (.add v35 n2))),(19,(.sel .u8 r1 (.add v35 n3))),(20,(.sel .u8 r1 (.add v35 n4))),(21,(.sel .u8 r1 (.add v35 n5))),(22,(.sel .u8 r1 (.add v35 n6))),(23,(.sel .u8 r1 (.add v35 n7))),(24,(.sel .u8 r1 (.add v35 n8))),(25,(.sel .u8 r1 (.add v35 n9))),(26,(.sel .u8 r2 (.add v36 n1))),(27,(.sel .u8 r2 (.add v36 n2))),(28,(.sel .u8 r2 (.add v36 n3))),(29,(.sel .u8 r2 (.add v36 n4))),(30,(.sel .u8 r2 (.add v36 n5))),(31,(.sel .u8 r2 (.add v36 n6))),(32,(.sel .u8 r2 (.add v36 n7))),(33,(.sel .u8 r2 (.add v36 n8))),(34,(.sel .u8 r2 (.add v36 n9))),(35,(.sel .u8 r3 (.add v37 n1))),(36,(.sel .u8 r3 (.add v37 n2))),(37,(.sel .u8 r3 (.add v37 n3))),(38,(.sel .u8 r3 (.add v37 n4))),(39,(.sel .u8 r3 (.add v37 n5))),(40,(.sel .u8 r3 (.add v37 n6))),(41,(.sel .u8 r3 (.add v37 n7))),(42,(.sel .u8 r3 (.add v37 n8))),(43,(.sel .u8 r3 (.add v37 n9))),(44,(.sel .u8 r4 (.add v38 n1))),(45,(.sel .u8 r4 (.add v38 n2))),(46,(.sel .u8 r4 (.add v38 n3))),(47,(.sel .u8 r4 (.add v38 n4))),(48,(.sel .u8 r4 (.add v38 n5))),(49,(.sel .u8 r4 (.add v38 n6))),(50,(.sel .u8 r4 (.add v38 n7))),(51,(.sel .u8 r4 (.add v38 n8))),(52,(.sel .u8 r4 (.add v38 n9)))]
def i33_34 : List SI := mkI 53 0 []
def i33_43 : List SI := mkI 52 0 (ap [(2,(.add v2 n1)),(3,(.wrap .i64 (.add v3 n1))),(4,(.add v4 v13)),(9,(.add v9 (.lit (-1))))] (sq 39 fun i => ((13+i),n0)))
def i35_9 : List SI := mkI 45 0 [(7,(.add v7 n1)),(34,(.wrap .i64 (.add (.wrap .i64 (.add v34 n1)) n1)))]
def i35_36 : List SI := mkI 65 0 [(0,v5),(1,v6),(2,v7),(3,v34),(4,v8),(5,v35),(6,v36),(7,v37),(8,v38),(9,v39),(10,v40),(11,v41),(12,v42),(13,v43),(14,v44),(15,(.sel .u8 r1 v35)),(16,(.sel .u8 r2 v36)),(17,(.sel .u8 r3 v37)),(18,(.sel .u8 r4 v38)),(19,(.sel .u8 r5 v39)),(20,(.sel .u8 r1 (.add v35 n1))),(21,(.sel .u8 r1 (.add v35 n2))),(22,(.sel .u8 r1 (.add v35 n3))),(23,(.sel .u8 r1 (.add v35 n4))),(24,(.sel .u8 r1 (.add v35 n5))),(25,(.sel .u8 r1 (.add v35 n6))),(26,(.sel .u8 r1 (.add v35 n7))),(27,(.sel .u8 r1 (.add v35 n8))),(28,(.sel .u8 r1 (.add v35 n9))),(29,(.sel .u8 r2 (.add v36 n1))),(30,(.sel .u8 r2 (.add v36 n2))),(31,(.sel .u8 r2 (.add v36 n3))),(32,(.sel .u8 r2 (.add v36 n4))),(33,(.sel .u8 r2 (.add v36 n5))),(34,(.sel .u8 r2 (.add v36 n6))),(35,(.sel .u8 r2 (.add v36 n7))),(36,(.sel .u8 r2 (.add v36 n8))),(37,(.sel .u8 r2 (.add v36 n9))),(38,(.sel .u8 r3 (.add v37 n1))),(39,(.sel .u8 r3 (.add v37 n2))),(40,(.sel .u8 r3 (.add v37 n3))),(41,(.sel .u8 r3 (.add v37 n4))),(42,(.sel .u8 r3 (.add v37 n5))),(43,(.sel .u8 r3 (.add v37 n6))),(44,(.sel .u8 r3 (.add v37 n7))),(45,(.sel .u8 r3 (.add v37 n8))),(46,(.sel .u8 r3 (.add v37 n9))),(47,(.sel .u8 r4 (.add v38 n1))),(48,(.sel .u8 r4 (.add v38 n2))),(49,(.sel .u8 r4 (.add v38 n3))),(50,(.sel .u8 r4 (.add v38 n4))),(51,(.sel .u8 r4 (.add v38 n5))),(52,(.sel .u8 r4 (.add v38 n6))),(53,(.sel .u8 r4 (.add v38 n7))),(54,(.sel .u8 r4 (.add v38 n8))),(55,(.sel .u8 r4 (.add v38 n9))),(56,(.sel .u8 r5 (.add v39 n1))),(57,(.sel .u8 r5 (.add v39 n2))),(58,(.sel .u8 r5 (.add v39 n3))),(59,(.sel .u8 r5 (.add v39 n4))),(60,(.sel .u8 r5 (.add v39 n5))),(61,(.sel .u8 r5 (.add v39 n6))),(62,(.sel .u8 r5 (.add v39 n7))),(63,(.sel .u8 r5 (.add v39 n8))),(64,(.sel .u8 r5 (.add v39 n9)))]
def i36_37 : List SI := mkI 65 0 []
def i36_42 : List SI := mkI 64 0 (ap [(2,(.add v2 n1)),(3,(.wrap .i64 (.add v3 n1))),(4,(.add v4 v15)),(10,(.add v10 (.lit (-1))))] (sq 49 fun i => ((15+i),n0)))
def i38_7 : List SI := mkI 48 0 [(8,(.add v8 n1)),(35,(.wrap .i64 (.add (.wrap .i64 (.add v35 n1)) n1)))]
def i38_39 : List SI := mkI 77 0 [(0,v6),(1,v7),(2,v8),(3,v35),(4,v9),(5,v36),(6,v37),(7,v38),(8,v39),(9,v40),(10,v41),(11,v42),(12,v43),(13,v44),(14,v45),(15,v46),(16,v47),(17,(.sel .u8 r1 v36)),(18,(.sel .u8 r2 v37)),(19,(.sel .u8 r3 v38)),(20,(.sel .u8 r4 v39)),(21,(.sel .u8 r5 v40)),(22,(.sel .u8 r6 v41)),(23,(.sel .u8 r1 (.add v36 n1))),(24,(.sel .u8 r1 (.add v36 n2))),(25,(.sel .u8 r1 (.add v36 n3))),(26,(.sel .u8 r1 (.add v36 n4))),(27,(.sel .u8 r1 (.add v36 n5))),(28,(.sel .u8 r1 (.add v36 n6))),(29,(.sel .u8 r1 (.add v36 n7))),(30,(.sel .u8 r1 (.add v36 n8))),(31,(.sel .u8 r1 (.add v36 n9))),(32,(.sel .u8 r2 (.add v37 n1))),(33,(.sel .u8 r2 (.add v37 n2))),(34,(.sel .u8 r2 (.add v37 n3))),(35,(.sel .u8 r2 (.add v37 n4))),(36,(.sel .u8 r2 (.add v37 n5))),(37,(.sel .u8 r2 (.add v37 n6))),(38,(.sel .u8 r2 (.add v37 n7))),(39,(.sel .u8 r2 (.add v37 n8))),(40,(.sel .u8 r2 (.add v37 n9))),(41,(.sel .u8 r3 (.add v38 n1))),(42,(.sel .u8 r3 (.add v38 n2))),(43,(.sel .u8 r3 (.add v38 n3))),(44,(.sel .u8 r3 (.add v38 n4))),(45,(.sel .u8 r3 (.add v38 n5))),(46,(.sel .u8 r3 (.add v38 n6))),(47,(.sel .u8 r3 (.add v38 n7))),(48,(.sel .u8 r3 (.add v38 n8))),(49,(.sel .u8 r3 (.add v38 n9))),(50,(.sel .u8 r4 (.add v39 n1))),(51,(.sel .u8 r4 (.add v39 n2))),(52,(.sel .u8 r4 (.add v39 n3))),(53,(.sel .u8 r4 (.add v39 n4))),(54,(.sel .u8 r4 (.add v39 n5))),(55,(.sel .u8 r4 (.add v39 n6))),(56,(.sel .u8 r4 (.add v39 n7))),(57,(.sel .u8 r4 (.add v39 n8))),(58,(.sel .u8 r4 (.add v39 n9))),(59,(.sel .u8 r5 (.add v40 n1))),(60,(.sel .u8 r5 (.add v40 n2))),(61,(.sel .u8 r5 (.add v40 n3))),(62,(.sel .u8 r5 (.add v40 n4))),(63,(.sel .u8 r5 (.add v40 n5))),(64,(.sel .u8 r5 (.add v40 n6))),(65,(.sel .u8 r5 (.add v40 n7))),(66,(.sel .u8 r5 (.add v40 n8))),(67,(.sel .u8 r5 (.add v40 n9))),(68,(.sel .u8 r6 (.add v41 n1))),(69,(.sel .u8 r6 (.add v41 n2))),(70,(.sel .u8 r6 (.add v41 n3))),(71,(.sel .u8 r6 (.add v41 n4))),(72,(.sel .u8 r6 (.add v41 n5))),(73,(.sel .u8 r6 (.add v41 n6))),(74,(.sel .u8 r6 (.add v41 n7))),(75,(.sel .u8 r6 (.add v41 n8))),(76,(.sel .u8 r6 (.add v41 n9)))]
def i39_40 : List SI := mkI 77 0 []
def i39_41 : List SI := mkI 76 0 (ap [(2,(.add v2 n1)),(3,(.wrap .i64 (.add v3 n1))),(4,(.add v4 v17)),(11,(.add v11 (.lit (-1))))] (sq 59 fun i => ((17+i),n0)))
def i41_40 : List SI := mkI 77 0 [(30,v75),(31,n0),(32,v30),(33,v31),(34,v32),(35,v33),(36,v34),(37,v35),(38,v36),(39,v37),(40,v38),(41,v39),(42,v40),(43,v41),(44,v42),(45,v43),(46,v44),(47,v45),(48,v46),(49,v47),(50,v48),(51,v49),(52,v50),(53,v51),(54,v52),(55,v53),(56,v54),(57,v55),(58,v56),(59,v57),(60,v58),(61,v59),(62,v60),(63,v61),(64,v62),(65,v63),(66,v64),(67,v65),(68,v66),(69,v67),(70,v68),(71,v69),(72,v70),(73,v71),(74,v72),(75,v73),(76,v74)]
def i41_41 : List SI := mkI 76 0 (ap [(2,(.add v2 n1)),(3,(.wrap .i64 (.add v3 n1))),(4,(.add v4 v17)),(11,(.add v11 (.lit (-1))))] (sq 59 fun i => ((17+i),n0)))
def i42_37 : List SI := mkI 65 0 [(27,v63),(28,n0),(29,v27),(30,v28),(31,v29),(32,v30),(33,v31),(34,v32),(35,v33),(36,v34),(37,v35),(38,v36),(39,v37),(40,v38),(41,v39),(42,v40),(43,v41),(44,v42),(45,v43),(46,v44),(47,v45),(48,v46),(49,v47),(50,v48),(51,v49),(52,v50),(53,v51),(54,v52),(55,v53),(56,v54),(57,v55),(58,v56),(59,v57),(60,v58),(61,v59),(62,v60),(63,v61),(64,v62)]
def i42_42 : List SI := mkI 64 0 (ap [(2,(.add v2 n1)),(3,(.wrap .i64 (.add v3 n1))),(4,(.add v4 v15)),(10,(.add v10 (.lit (-1))))] (sq 49 fun i => ((15+i),n0)))
def i43_34 : List SI := mkI 53 0 [(25,n0),(26,v25),(27,v26),(28,v27),(29,v28),(30,v29),(31,v30),(32,v31),(33,v32),(34,v33),(35,v34),(36,v35),(37,v36),(38,v37),(39,v38),(40,v39),(41,v40),(42,v41),(43,v42),(44,v43),(45,v44),(46,v45),(47,v46),(48,v47),(49,v48),(50,v49),(51,v50),(52,v51)]
def i43_43 : List SI := mkI 52 0 (ap [(2,(.add v2 n1)),(3,(.wrap .i64 (.add v3 n1))),(4,(.add v4 v13)),(9,(.add v9 (.lit (-1))))] (sq 39 fun i => ((13+i),n0)))
def i44_31 : List SI := mkI 41 0 [(22,n0),(23,v22),(24,v23),(25,v24),(26,v25),(27,v26),(28,v27),(29,v28),(30,v29),(31,v30),(32,v31),(33,v32),(34,v33),(35,v34),(36,v35),(37,v36),(38,v37),(39,v38),(40,v39)]
def i44_44 : List SI := mkI 40 0 (ap [(2,(.add v2 n1)),(3,(.wrap .i64 (.add v3 n1))),(4,(.add v4 v11)),(8,(.add v8 (.lit (-1))))] (sq 29 fun i => ((11+i),n0)))
def i45_28 : List SI := mkI 29 0 [(19,n0),(20,v19),(21,v20),(22,v21),(23,v22),(24,v23),(25,v24),(26,v25),(27,v26),(28,v27)]
def i45_45 : List SI := mkI 28 0 (ap [(2,(.add v2 n1)),(3,(.wrap .i64 (.add v3 n1))),(4,(.add v4 v9)),(5,(.add v5 n1)),(7,(.add v7 (.lit (-1))))] (sq 19 fun i => ((9+i),n0)))
def i46_25 : List SI := mkI 15 0 []
def i46_46 : List SI := mkI 15 0 [(2,(.add v2 n1)),(3,(.wrap .i64 (.add v3 n1))),(4,(.add v4 v6)),(5,(.add v5 (.lit (-1)))),(6,v7),(7,v8),(8,v9),(9,v10),(10,v11),(11,v12),(12,v13),(13,v14),(14,n0)]

def cuts : List ACut := [⟨u0,g0,⟨11,none,0,none,0,none⟩⟩,⟨u1,g1,⟨10,none,0,none,0,none⟩⟩,⟨u2,g2,⟨9,none,0,none,0,none⟩⟩,⟨u3,g3,⟨8,none,0,none,0,none⟩⟩,⟨u4,g4,⟨7,none,0,none,0,none⟩⟩,⟨u5,g5,⟨6,none,0,none,0,none⟩⟩,⟨u6,g6,⟨5,none,0,none,0,none⟩⟩,⟨u7,g7,m7⟩,⟨u8,g8,⟨5,none,0,none,0,none⟩⟩,⟨u9,g9,m9⟩,⟨u10,g10,⟨5,none,0,none,0,none⟩⟩,⟨u11,g11,m11⟩,⟨u12,g12,⟨5,none,0,none,0,none⟩⟩,⟨u13,g13,m13⟩,⟨u14,g14,⟨5,none,0,none,0,none⟩⟩,⟨u15,g15,m15⟩,⟨u16,g16,⟨5,none,0,none,0,none⟩⟩,⟨u17,g17,m17⟩,⟨u18,g18,⟨4,none,0,none,0,none⟩⟩,⟨u19,g19,m19⟩,⟨u20,g20,m20⟩,⟨u21,g21,⟨2,none,0,none,0,none⟩⟩,⟨u22,g21,⟨1,none,0,none,0,none⟩⟩,⟨u23,g23,m23⟩,⟨u24,g24,⟨3,none,0,none,0,none⟩⟩,⟨u25,g25,⟨1,none,0,none,0,none⟩⟩,⟨u26,g26,m26⟩,⟨u27,g27,⟨3,none,0,none,0,none⟩⟩,⟨u28,g27,⟨1,none,0,none,0,none⟩⟩,⟨u29,g29,m29⟩,⟨u30,g30,⟨3,none,0,none,0,none⟩⟩,⟨u31,g30,⟨1,none,0,none,0,none⟩⟩,⟨u32,g32,m32⟩,⟨u33,g33,⟨3,none,0,none,0,none⟩⟩,⟨u34,g33,⟨1,none,0,none,0,none⟩⟩,⟨u35,g35,m35⟩,⟨u36,g36,⟨3,none,0,none,0,none⟩⟩,⟨u37,g36,⟨1,none,0,none,0,none⟩⟩,⟨u38,g38,m38⟩,⟨u39,g39,⟨3,none,0,none,0,none⟩⟩,⟨u40,g39,⟨1,none,0,none,0,none⟩⟩,⟨u41,g41,m41⟩,⟨u42,g42,m42⟩,⟨u43,g43,m43⟩,⟨u44,g44,m44⟩,⟨u45,g45,m45⟩,⟨u46,g46,m46⟩]
def top : Nat := 12

def ad (r c : Nat) : SI := match c with
  | 0 => .var r
  | c + 1 => .add (.var r) (.lit (.ofNat (c + 1)))
def prA (r : Nat) (x : Nat → SI) : Nat → Nat → List SI
  | 0,_ => []
  | n + 1,j => .mul (.quo (ad r (9 - j)) (.lit 10)) (x j) :: prA r x n (j + 1)
def pr (r n : Nat) (x : Nat → SI) : List SI := prA r x n 0
def sa (w a : Nat) (j : Nat) : SI := .sel .u8 (.row w) (ad a j)
def sl (w : Nat) (j : Nat) : SI := .sel .u8 (.row w) (.lit (.ofNat j))
def va (a b : Nat) (j : Nat) : SI := match j with
  | 0 => .var a
  | j + 1 => .var (b + j)
def vl (l : List Nat) (j : Nat) : SI := .var (l.getD j 0)
def fj : List (List SI) → List SI
  | [] => []
  | a :: l => a ++ fj l
def lg (i : Nat) (c d : Int) : Cl.Lit := .ge ([(i,c)],d)
def ln (i : Nat) (c d : Int) : Cl.Lit := .ne ([(i,c)],d)
def le (i : Nat) (c d : Int) : Cl.Lit := .eq ([(i,c)],d)
def y0 : Cl.CutΦ := { tbl := (fj [pr 7 10 (sl 8)]),cls := [[.eq ((ap [(19,-1),(17,-1),(15,-1),(13,-1),(12,1)] (sq 6 fun i => ((11-2*i),-1))),0)]],stps := [],use := [1,3,5,7,9,11,12,13,15,17,19] }
def y1 : Cl.CutΦ := { tbl := (fj [pr 32 10 (sl 1),pr 33 10 (sl 8)]),cls := [[.eq ([(66,-1),(64,-1),(14,1)],0)],[.eq ((ap (sq 14 fun i => ((39-2*i),-1)) (ap [(12,1)] (sq 6 fun i => ((11-2*i),-1)))),0)]],stps := [],use := (ap [1,3,5,7,9,11,12,13,14] (ap (sq 13 fun i => (15+2*i)) [64,66])) }
def y2 : Cl.CutΦ := { tbl := (fj [pr 32 10 (sl 1),pr 33 10 (sl 2),pr 34 10 (sl 8)]),cls := [[.eq ([(68,-1),(66,-1),(64,-1),(14,1)],0)],[.eq ((ap (sq 24 fun i => ((59-2*i),-1)) (ap [(12,1)] (sq 6 fun i => ((11-2*i),-1)))),0)]],stps := [],use := (ap [1,3,5,7,9,11,12,13,14] (ap (sq 23 fun i => (15+2*i)) [64,66,68])) }
def y3 : Cl.CutΦ := { tbl := (fj (ap (sq 3 fun i => pr (32+i) 10 (sl (1+i))) [pr 35 10 (sl 8)])),cls := [[.eq ([(70,-1),(68,-1),(66,-1),(64,-1),(14,1)],0)],[.eq ((ap (sq 34 fun i => ((79-2*i),-1)) (ap [(12,1)] (sq 6 fun i => ((11-2*i),-1)))),0)]],stps := [],use := (ap [1,3,5,7,9,11,12,13,14] (ap (sq 25 fun i => (15+2*i)) [64,65,66,67,68,69,70,71,73,75,77,79])) }
def y4 : Cl.CutΦ := { tbl := (fj (ap (sq 4 fun i => pr (32+i) 10 (sl (1+i))) [pr 36 10 (sl 8)])),cls := [[.eq ((ap (sq 5 fun i => ((72-2*i),-1)) [(14,1)]),0)],[.eq ((ap (sq 44 fun i => ((99-2*i),-1)) (ap [(12,1)] (sq 6 fun i => ((11-2*i),-1)))),0)]],stps := [],use := (ap [1,3,5,7,9,11,12,13,14] (ap (sq 25 fun i => (15+2*i)) (ap [64,65,66,67,68,69,70,71,72] (sq 14 fun i => (73+2*i))))) }
def y5 : Cl.CutΦ := { tbl := (fj (ap (sq 5 fun i => pr (32+i) 10 (sl (1+i))) [pr 37 10 (sl 8)])),cls := [[.eq ((ap (sq 6 fun i => ((74-2*i),-1)) [(14,1)]),0)],[.eq ((ap (sq 54 fun i => ((119-2*i),-1)) (ap [(12,1)] (sq 6 fun i => ((11-2*i),-1)))),0)]],stps := [],use := (ap [1,3,5,7,9,11,12,13,14] (ap (sq 25 fun i => (15+2*i)) (ap (sq 12 fun i => (64+i)) (sq 22 fun i => (77+2*i))))) }
def y6 : Cl.CutΦ := { tbl := (fj (sq 6 fun i => pr (32+i) 10 (sl (1+i)))),cls := [[.eq ((ap (sq 6 fun i => ((74-2*i),-1)) [(14,1)]),0)],[.eq ((ap (sq 54 fun i => ((119-2*i),-1)) (ap [(12,1)] (sq 6 fun i => ((11-2*i),-1)))),0)]],stps := [],use := (ap [1,3,5,7,9,11,12,13,14] (ap (sq 25 fun i => (15+2*i)) (ap (sq 12 fun i => (64+i)) (sq 22 fun i => (77+2*i))))) }
def y7 : Cl.CutΦ := { tbl := (fj (sq 6 fun i => pr (42+i) 10 (sa (1+i) (36+i)))),cls := [[.eq ((ap (sq 6 fun i => ((94-2*i),-1)) [(16,-1),(14,1)]),0)],[.eq ((ap (sq 6 fun i => ((82-2*i),-1)) [(16,1)]),0)],[.eq ((ap (sq 51 fun i => ((119-2*i),-1)) (ap [(18,-1),(17,-1),(15,-1),(13,-1),(12,1)] (sq 6 fun i => ((11-2*i),-1)))),0)]],stps := [],use := (ap [1,3,5,7,9,11,12,13,14,15,16,17,18] (ap (sq 27 fun i => (19+2*i)) (ap (sq 24 fun i => (72+i)) (sq 12 fun i => (97+2*i))))) }
def y8 : Cl.CutΦ := { tbl := (fj (sq 5 fun i => pr (31+i) 10 (sl (1+i)))),cls := [[.eq ((ap (sq 5 fun i => ((70-2*i),-1)) [(12,1)]),0)],[.eq ((ap (sq 45 fun i => ((99-2*i),-1)) [(10,1),(9,-1),(7,-1),(5,-1),(3,-1),(1,-1)]),0)]],stps := [],use := (ap [1,3,5,7,9,10,11,12] (ap (sq 25 fun i => (13+2*i)) (ap [62,63,64,65,66,67,68,69,70] (sq 15 fun i => (71+2*i))))) }
def y9 : Cl.CutΦ := { tbl := (fj (sq 5 fun i => pr (40+i) 10 (sa (1+i) (35+i)))),cls := [[.eq ((ap (sq 5 fun i => ((88-2*i),-1)) [(14,-1),(12,1)]),0)],[.eq ((ap (sq 5 fun i => ((78-2*i),-1)) [(14,1)]),0)],[.eq ((ap (sq 42 fun i => ((99-2*i),-1)) [(16,-1),(15,-1),(13,-1),(11,-1),(10,1),(9,-1),(7,-1),(5,-1),(3,-1),(1,-1)]),0)]],stps := [],use := (ap [1,3,5,7,9,10,11,12,13,14,15,16] (ap (sq 27 fun i => (17+2*i)) (ap (sq 20 fun i => (70+i)) [91,93,95,97,99]))) }
def y10 : Cl.CutΦ := { tbl := (fj (sq 4 fun i => pr (31+i) 10 (sl (1+i)))),cls := [[.eq ([(68,-1),(66,-1),(64,-1),(62,-1),(12,1)],0)],[.eq ((ap (sq 35 fun i => ((79-2*i),-1)) [(10,1),(9,-1),(7,-1),(5,-1),(3,-1),(1,-1)]),0)]],stps := [],use := (ap [1,3,5,7,9,10,11,12] (ap (sq 25 fun i => (13+2*i)) [62,63,64,65,66,67,68,69,71,73,75,77,79])) }
def y11 : Cl.CutΦ := { tbl := (fj (sq 4 fun i => pr (39+i) 10 (sa (1+i) (35+i)))),cls := [[.eq ([(84,-1),(82,-1),(80,-1),(78,-1),(14,-1),(12,1)],0)],[.eq ([(76,-1),(74,-1),(72,-1),(70,-1),(14,1)],0)],[.eq ((ap (sq 32 fun i => ((79-2*i),-1)) [(16,-1),(15,-1),(13,-1),(11,-1),(10,1),(9,-1),(7,-1),(5,-1),(3,-1),(1,-1)]),0)]],stps := [],use := (ap [1,3,5,7,9,10,11,12,13,14,15,16] (ap (sq 27 fun i => (17+2*i)) (ap (sq 11 fun i => (70+i)) [82,84]))) }
def y12 : Cl.CutΦ := { tbl := (fj (sq 3 fun i => pr (31+i) 10 (sl (1+i)))),cls := [[.eq ([(66,-1),(64,-1),(62,-1),(12,1)],0)],[.eq ((ap (sq 25 fun i => ((59-2*i),-1)) [(10,1),(9,-1),(7,-1),(5,-1),(3,-1),(1,-1)]),0)]],stps := [],use := (ap [1,3,5,7,9,10,11,12] (ap (sq 24 fun i => (13+2*i)) [62,64,66])) }
def y13 : Cl.CutΦ := { tbl := (fj (sq 3 fun i => pr (38+i) 10 (sa (1+i) (35+i)))),cls := [[.eq ([(80,-1),(78,-1),(76,-1),(14,-1),(12,1)],0)],[.eq ([(74,-1),(72,-1),(70,-1),(14,1)],0)],[.eq ((ap (sq 22 fun i => ((59-2*i),-1)) [(16,-1),(15,-1),(13,-1),(11,-1),(10,1),(9,-1),(7,-1),(5,-1),(3,-1),(1,-1)]),0)]],stps := [],use := (ap [1,3,5,7,9,10,11,12,13,14,15,16] (ap (sq 22 fun i => (17+2*i)) [70,72,74,76,78,80])) }
def y14 : Cl.CutΦ := { tbl := (fj [pr 31 10 (sl 1),pr 32 10 (sl 2)]),cls := [[.eq ([(64,-1),(62,-1),(12,1)],0)],[.eq ((ap (sq 15 fun i => ((39-2*i),-1)) [(10,1),(9,-1),(7,-1),(5,-1),(3,-1),(1,-1)]),0)]],stps := [],use := (ap [1,3,5,7,9,10,11,12] (ap (sq 14 fun i => (13+2*i)) [62,64])) }
def y15 : Cl.CutΦ := { tbl := (fj [pr 37 10 (sa 1 35),pr 38 10 (sa 2 36)]),cls := [[.eq ([(76,-1),(74,-1),(14,-1),(12,1)],0)],[.eq ([(72,-1),(70,-1),(14,1)],0)],[.eq ((ap (sq 12 fun i => ((39-2*i),-1)) [(16,-1),(15,-1),(13,-1),(11,-1),(10,1),(9,-1),(7,-1),(5,-1),(3,-1),(1,-1)]),0)]],stps := [],use := (ap [1,3,5,7,9,10,11,12,13,14,15,16] (ap (sq 12 fun i => (17+2*i)) [70,72,74,76])) }
def y16 : Cl.CutΦ := { tbl := (fj [pr 6 10 (sl 1)]),cls := [[.eq ((ap (sq 5 fun i => ((19-2*i),-1)) [(10,1),(9,-1),(7,-1),(5,-1),(3,-1),(1,-1)]),0)]],stps := [],use := [1,3,5,7,9,10,11,13,15,17,19] }
def y17 : Cl.CutΦ := { tbl := (fj [pr 35 10 (sa 1 7)]),cls := [[.eq ([(70,-1),(14,-1),(12,1)],0)],[.eq ([(19,-1),(17,-1),(16,-1),(15,-1),(13,-1),(11,-1),(10,1),(9,-1),(7,-1),(5,-1),(3,-1),(1,-1)],0)]],stps := [],use := [1,3,5,7,9,10,11,12,13,14,15,16,17,19,70] }
def y23 : Cl.CutΦ := { tbl := (fj [pr 35 10 (sa 1 7)]),cls := [[.eq ([(70,-1),(14,-1),(12,1)],0)],[.eq ([(19,-1),(17,-1),(16,-1),(15,-1),(13,-1),(11,-1),(10,1),(9,-1),(7,-1),(5,-1),(3,-1),(1,-1)],0)]],stps := [],use := [1,3,5,7,9,10,11,12,13,14,15,16,17,19,70] }
def y24 : Cl.CutΦ := { tbl := (fj [pr 5 10 (va 6 7)]),cls := [[.eq ([(10,-1),(4,-1),(2,1)],0)],[.eq ((ap (sq 6 fun i => ((19-2*i),-1)) [(8,-1),(7,-1),(5,-1),(3,-1),(1,-1),(0,1)]),0)]],stps := [],use := [0,1,2,3,4,5,7,8,9,10,11,13,15,17,19] }
def y25 : Cl.CutΦ := { tbl := (fj [pr 5 9 (va 6 7)]),cls := [[.eq ([(10,-1),(4,-1),(2,1)],0)],[.eq ((ap (sq 5 fun i => ((17-2*i),-1)) [(8,-1),(7,-1),(5,-1),(3,-1),(1,-1),(0,1)]),0)],[le 10 1 0]],stps := [],use := [0,1,2,3,4,5,7,8,9,10,11,13,15,17] }
def y26 : Cl.CutΦ := { tbl := (fj [pr 37 10 (sa 1 35),pr 38 10 (sa 2 36)]),cls := [[.eq ([(76,-1),(74,-1),(14,-1),(12,1)],0)],[.eq ([(72,-1),(70,-1),(14,1)],0)],[.eq ((ap (sq 12 fun i => ((39-2*i),-1)) [(16,-1),(15,-1),(13,-1),(11,-1),(10,1),(9,-1),(7,-1),(5,-1),(3,-1),(1,-1)]),0)]],stps := [],use := (ap [1,3,5,7,9,10,11,12,13,14,15,16] (ap (sq 12 fun i => (17+2*i)) [70,72,74,76])) }
def y27 : Cl.CutΦ := { tbl := (fj [pr 7 10 (va 9 11),pr 8 10 (va 10 20)]),cls := [[.eq ([(16,-1),(14,-1),(4,-1),(2,1)],0)],[.eq ([(12,-1),(10,-1),(4,1)],0)],[.eq ((ap (sq 16 fun i => ((39-2*i),-1)) [(8,-1),(7,-1),(5,-1),(3,-1),(1,-1),(0,1)]),0)]],stps := [],use := (ap [0,1,2,3,4,5,7,8,9,10,11,12,13,14,15,16] (sq 12 fun i => (17+2*i))) }
def y28 : Cl.CutΦ := { tbl := (fj [pr 7 10 (va 9 11),pr 8 10 (va 10 20)]),cls := [[.eq ([(16,-1),(14,-1),(4,-1),(2,1)],0)],[.eq ([(12,-1),(10,-1),(4,1)],0)],[.eq ((ap (sq 16 fun i => ((39-2*i),-1)) [(8,-1),(7,-1),(5,-1),(3,-1),(1,-1),(0,1)]),0)],[le 14 1 0],[le 16 1 0]],stps := [],use := (ap [0,1,2,3,4,5,7,8,9,10,11,12,13,14,15,16] (sq 12 fun i => (17+2*i))) }
def y29 : Cl.CutΦ := { tbl := (fj (sq 3 fun i => pr (38+i) 10 (sa (1+i) (35+i)))),cls := [[.eq ([(80,-1),(78,-1),(76,-1),(14,-1),(12,1)],0)],[.eq ([(74,-1),(72,-1),(70,-1),(14,1)],0)],[.eq ((ap (sq 22 fun i => ((59-2*i),-1)) [(16,-1),(15,-1),(13,-1),(11,-1),(10,1),(9,-1),(7,-1),(5,-1),(3,-1),(1,-1)]),0)]],stps := [],use := (ap [1,3,5,7,9,10,11,12,13,14,15,16] (ap (sq 22 fun i => (17+2*i)) [70,72,74,76,78,80])) }
def y30 : Cl.CutΦ := { tbl := (fj (sq 3 fun i => pr (8+i) 10 (va (11+i) (14+9*i)))),cls := [[.eq ([(20,-1),(18,-1),(16,-1),(4,-1),(2,1)],0)],[.eq ([(14,-1),(12,-1),(10,-1),(4,1)],0)],[.eq ((ap (sq 26 fun i => ((59-2*i),-1)) [(8,-1),(7,-1),(5,-1),(3,-1),(1,-1),(0,1)]),0)]],stps := [],use := (ap [0,1,2,3,4,5] (ap (sq 15 fun i => (7+i)) (sq 19 fun i => (23+2*i)))) }
def y31 : Cl.CutΦ := { tbl := (fj (sq 3 fun i => pr (8+i) 10 (va (11+i) (14+9*i)))),cls := [[.eq ([(20,-1),(18,-1),(16,-1),(4,-1),(2,1)],0)],[.eq ([(14,-1),(12,-1),(10,-1),(4,1)],0)],[.eq ((ap (sq 26 fun i => ((59-2*i),-1)) [(8,-1),(7,-1),(5,-1),(3,-1),(1,-1),(0,1)]),0)],[le 16 1 0],[le 18 1 0],[le 20 1 0]],stps := [],use := (ap [0,1,2,3,4,5] (ap (sq 15 fun i => (7+i)) (sq 19 fun i => (23+2*i)))) }
def y32 : Cl.CutΦ := { tbl := (fj (sq 4 fun i => pr (39+i) 10 (sa (1+i) (35+i)))),cls := [[.eq ([(84,-1),(82,-1),(80,-1),(78,-1),(14,-1),(12,1)],0)],[.eq ([(76,-1),(74,-1),(72,-1),(70,-1),(14,1)],0)],[.eq ((ap (sq 32 fun i => ((79-2*i),-1)) [(16,-1),(15,-1),(13,-1),(11,-1),(10,1),(9,-1),(7,-1),(5,-1),(3,-1),(1,-1)]),0)]],stps := [],use := (ap [1,3,5,7,9,10,11,12,13,14,15,16] (ap (sq 27 fun i => (17+2*i)) (ap (sq 11 fun i => (70+i)) [82,84]))) }
def y33 : Cl.CutΦ := { tbl := (fj (sq 4 fun i => pr (9+i) 10 (va (13+i) (17+9*i)))),cls := [[.eq ([(24,-1),(22,-1),(20,-1),(18,-1),(4,-1),(2,1)],0)],[.eq ([(16,-1),(14,-1),(12,-1),(10,-1),(4,1)],0)],[.eq ((ap (sq 36 fun i => ((79-2*i),-1)) [(8,-1),(7,-1),(5,-1),(3,-1),(1,-1),(0,1)]),0)]],stps := [],use := (ap [0,1,2,3,4,5] (ap (sq 19 fun i => (7+i)) (sq 27 fun i => (27+2*i)))) }
def y34 : Cl.CutΦ := { tbl := (fj (sq 4 fun i => pr (9+i) 10 (va (13+i) (17+9*i)))),cls := (ap [[.eq ([(24,-1),(22,-1),(20,-1),(18,-1),(4,-1),(2,1)],0)],[.eq ([(16,-1),(14,-1),(12,-1),(10,-1),(4,1)],0)],[.eq ((ap (sq 36 fun i => ((79-2*i),-1)) [(8,-1),(7,-1),(5,-1),(3,-1),(1,-1),(0,1)]),0)]] (sq 4 fun i => [le (18+2*i) 1 0])),stps := [],use := (ap [0,1,2,3,4,5] (ap (sq 19 fun i => (7+i)) (sq 27 fun i => (27+2*i)))) }
def y35 : Cl.CutΦ := { tbl := (fj (sq 5 fun i => pr (40+i) 10 (sa (1+i) (35+i)))),cls := [[.eq ((ap (sq 5 fun i => ((88-2*i),-1)) [(14,-1),(12,1)]),0)],[.eq ((ap (sq 5 fun i => ((78-2*i),-1)) [(14,1)]),0)],[.eq ((ap (sq 42 fun i => ((99-2*i),-1)) [(16,-1),(15,-1),(13,-1),(11,-1),(10,1),(9,-1),(7,-1),(5,-1),(3,-1),(1,-1)]),0)]],stps := [],use := (ap [1,3,5,7,9,10,11,12,13,14,15,16] (ap (sq 27 fun i => (17+2*i)) (ap (sq 20 fun i => (70+i)) [91,93,95,97,99]))) }
def y36 : Cl.CutΦ := { tbl := (fj (sq 5 fun i => pr (10+i) 10 (va (15+i) (20+9*i)))),cls := [[.eq ((ap (sq 5 fun i => ((28-2*i),-1)) [(4,-1),(2,1)]),0)],[.eq ((ap (sq 5 fun i => ((18-2*i),-1)) [(4,1)]),0)],[.eq ((ap (sq 46 fun i => ((99-2*i),-1)) [(8,-1),(7,-1),(5,-1),(3,-1),(1,-1),(0,1)]),0)]],stps := [],use := (ap [0,1,2,3,4,5] (ap (sq 23 fun i => (7+i)) (sq 35 fun i => (31+2*i)))) }
def y37 : Cl.CutΦ := { tbl := (fj (sq 5 fun i => pr (10+i) 10 (va (15+i) (20+9*i)))),cls := (ap [[.eq ((ap (sq 5 fun i => ((28-2*i),-1)) [(4,-1),(2,1)]),0)],[.eq ((ap (sq 5 fun i => ((18-2*i),-1)) [(4,1)]),0)],[.eq ((ap (sq 46 fun i => ((99-2*i),-1)) [(8,-1),(7,-1),(5,-1),(3,-1),(1,-1),(0,1)]),0)]] (sq 5 fun i => [le (20+2*i) 1 0])),stps := [],use := (ap [0,1,2,3,4,5] (ap (sq 23 fun i => (7+i)) (sq 35 fun i => (31+2*i)))) }
def y38 : Cl.CutΦ := { tbl := (fj (sq 6 fun i => pr (42+i) 10 (sa (1+i) (36+i)))),cls := [[.eq ((ap (sq 6 fun i => ((94-2*i),-1)) [(16,-1),(14,1)]),0)],[.eq ((ap (sq 6 fun i => ((82-2*i),-1)) [(16,1)]),0)],[.eq ((ap (sq 51 fun i => ((119-2*i),-1)) (ap [(18,-1),(17,-1),(15,-1),(13,-1),(12,1)] (sq 6 fun i => ((11-2*i),-1)))),0)]],stps := [],use := (ap [1,3,5,7,9,11,12,13,14,15,16,17,18] (ap (sq 27 fun i => (19+2*i)) (ap (sq 24 fun i => (72+i)) (sq 12 fun i => (97+2*i))))) }
def y39 : Cl.CutΦ := { tbl := (fj (sq 6 fun i => pr (11+i) 10 (va (17+i) (23+9*i)))),cls := [[.eq ((ap (sq 6 fun i => ((32-2*i),-1)) [(4,-1),(2,1)]),0)],[.eq ((ap (sq 6 fun i => ((20-2*i),-1)) [(4,1)]),0)],[.eq ((ap (sq 56 fun i => ((119-2*i),-1)) [(8,-1),(7,-1),(5,-1),(3,-1),(1,-1),(0,1)]),0)]],stps := [],use := (ap [0,1,2,3,4,5] (ap (sq 27 fun i => (7+i)) (sq 43 fun i => (35+2*i)))) }
def y40 : Cl.CutΦ := { tbl := (fj (sq 6 fun i => pr (11+i) 10 (va (17+i) (23+9*i)))),cls := (ap [[.eq ((ap (sq 6 fun i => ((32-2*i),-1)) [(4,-1),(2,1)]),0)],[.eq ((ap (sq 6 fun i => ((20-2*i),-1)) [(4,1)]),0)],[.eq ((ap (sq 56 fun i => ((119-2*i),-1)) [(8,-1),(7,-1),(5,-1),(3,-1),(1,-1),(0,1)]),0)]] (sq 6 fun i => [le (22+2*i) 1 0])),stps := [],use := (ap [0,1,2,3,4,5] (ap (sq 27 fun i => (7+i)) (sq 43 fun i => (35+2*i)))) }
def y41 : Cl.CutΦ := { tbl := (fj (ap [pr 11 9 (vl [17,23,24,25,26,27,28,29,75])] (sq 5 fun i => pr (12+i) 10 (va (18+i) (30+9*i))))),cls := [[.eq ((ap (sq 6 fun i => ((32-2*i),-1)) [(4,-1),(2,1)]),0)],[.eq ((ap (sq 6 fun i => ((20-2*i),-1)) [(4,1)]),0)],[.eq ((ap (sq 55 fun i => ((117-2*i),-1)) [(8,-1),(7,-1),(5,-1),(3,-1),(1,-1),(0,1)]),0)]],stps := [],use := (ap [0,1,2,3,4,5] (ap (sq 27 fun i => (7+i)) (sq 42 fun i => (35+2*i)))) }
def y42 : Cl.CutΦ := { tbl := (fj (ap [pr 10 9 (vl [15,20,21,22,23,24,25,26,63])] (sq 4 fun i => pr (11+i) 10 (va (16+i) (27+9*i))))),cls := [[.eq ((ap (sq 5 fun i => ((28-2*i),-1)) [(4,-1),(2,1)]),0)],[.eq ((ap (sq 5 fun i => ((18-2*i),-1)) [(4,1)]),0)],[.eq ((ap (sq 45 fun i => ((97-2*i),-1)) [(8,-1),(7,-1),(5,-1),(3,-1),(1,-1),(0,1)]),0)]],stps := [],use := (ap [0,1,2,3,4,5] (ap (sq 23 fun i => (7+i)) (sq 34 fun i => (31+2*i)))) }
def y43 : Cl.CutΦ := { tbl := (fj (ap [pr 9 9 (va 13 17)] (sq 3 fun i => pr (10+i) 10 (va (14+i) (25+9*i))))),cls := [[.eq ([(24,-1),(22,-1),(20,-1),(18,-1),(4,-1),(2,1)],0)],[.eq ([(16,-1),(14,-1),(12,-1),(10,-1),(4,1)],0)],[.eq ((ap (sq 35 fun i => ((77-2*i),-1)) [(8,-1),(7,-1),(5,-1),(3,-1),(1,-1),(0,1)]),0)]],stps := [],use := (ap [0,1,2,3,4,5] (ap (sq 19 fun i => (7+i)) (sq 26 fun i => (27+2*i)))) }
def y44 : Cl.CutΦ := { tbl := (fj [pr 8 9 (va 11 14),pr 9 10 (va 12 22),pr 10 10 (va 13 31)]),cls := [[.eq ([(20,-1),(18,-1),(16,-1),(4,-1),(2,1)],0)],[.eq ([(14,-1),(12,-1),(10,-1),(4,1)],0)],[.eq ((ap (sq 25 fun i => ((57-2*i),-1)) [(8,-1),(7,-1),(5,-1),(3,-1),(1,-1),(0,1)]),0)]],stps := [],use := (ap [0,1,2,3,4,5] (ap (sq 15 fun i => (7+i)) (sq 18 fun i => (23+2*i)))) }
def y45 : Cl.CutΦ := { tbl := (fj [pr 7 9 (va 9 11),pr 8 10 (va 10 19)]),cls := [[.eq ([(16,-1),(14,-1),(4,-1),(2,1)],0)],[.eq ([(12,-1),(10,-1),(4,1)],0)],[.eq ((ap (sq 15 fun i => ((37-2*i),-1)) [(8,-1),(7,-1),(5,-1),(3,-1),(1,-1),(0,1)]),0)]],stps := [],use := [0,1,2,3,4,5,7,8,9,10,11,12,13,14,15,16,17,19,21,23,25,27,29,31,33,35,37] }
def y46 : Cl.CutΦ := { tbl := (fj [pr 5 9 (va 6 7)]),cls := [[.eq ([(10,-1),(4,-1),(2,1)],0)],[.eq ((ap (sq 5 fun i => ((17-2*i),-1)) [(8,-1),(7,-1),(5,-1),(3,-1),(1,-1),(0,1)]),0)]],stps := [],use := [0,1,2,3,4,5,7,8,9,10,11,13,15,17] }
def tab : Nat → Option Cl.CutΦ := fun k => match k with
  | 0 => some y0
  | 1 => some y1
  | 2 => some y2
  | 3 => some y3
  | 4 => some y4
  | 5 => some y5
  | 6 => some y6
  | 7 => some y7
  | 8 => some y8
  | 9 => some y9
  | 10 => some y10
  | 11 => some y11
  | 12 => some y12
  | 13 => some y13
  | 14 => some y14
  | 15 => some y15
  | 16 => some y16
  | 17 => some y17
  | 23 => some y23
  | 24 => some y24
  | 25 => some y25
  | 26 => some y26
  | 27 => some y27
  | 28 => some y28
  | 29 => some y29
  | 30 => some y30
  | 31 => some y31
  | 32 => some y32
  | 33 => some y33
  | 34 => some y34
  | 35 => some y35
  | 36 => some y36
  | 37 => some y37
  | 38 => some y38
  | 39 => some y39
  | 40 => some y40
  | 41 => some y41
  | 42 => some y42
  | 43 => some y43
  | 44 => some y44
  | 45 => some y45
  | 46 => some y46
  | _ => none
def φ : Phi := Cl.phiC tab


def cx (h : SB × Bool) (g : Ctx) : Ctx := { rng := g.rng,asm := h :: g.asm }
def xb0 := cx h65 (Go.Ev.ctxP shape)
def zb0 := (Go.Ev.startP Try.prog 3 shape).refine xb0
def xb1 := cx h236 xb0
def zb1 := zb0.refine xb1
def xb2 := cx (((.lss n0 v1),false) : SB × Bool) xb0
def zb2 := zb0.refine xb2
def xb3 := cx h168 (Go.Ev.ctxP shape)
def zb3 := (Go.Ev.startP Try.prog 3 shape).refine xb3
def xb4 := cx h237 g0
def zb4 := t0.cfg.refine xb4
def xb5 := cx (((.lss n1 v1),false) : SB × Bool) g0
def zb5 := t0.cfg.refine xb5
def xb6 := cx h238 g1
def zb6 := t1.cfg.refine xb6
def xb7 := cx (((.lss n2 v1),false) : SB × Bool) g1
def zb7 := t1.cfg.refine xb7
def xb8 := cx h239 g2
def zb8 := t2.cfg.refine xb8
def xb9 := cx (((.lss n3 v1),false) : SB × Bool) g2
def zb9 := t2.cfg.refine xb9
def xb10 := cx h240 g3
def zb10 := t3.cfg.refine xb10
def xb11 := cx (((.lss n4 v1),false) : SB × Bool) g3
def zb11 := t3.cfg.refine xb11
def xb12 := cx h241 g4
def zb12 := t4.cfg.refine xb12
def xb13 := cx (((.lss n5 v1),false) : SB × Bool) g4
def zb13 := t4.cfg.refine xb13
def xb14 := cx h65 g6
def zb14 := t6.cfg.refine xb14
def xb15 := cx h136 xb14
def zb15 := zb14.refine xb15
def xb16 := cx h120 xb15
def zb16 := zb15.refine xb16
def xb17 := cx h36 xb15
def zb17 := zb15.refine xb17
def xb18 := cx h130 xb17
def zb18 := zb17.refine xb18
def xb19 := cx h53 xb17
def zb19 := zb17.refine xb19
def xb20 := cx h141 xb19
def zb20 := zb19.refine xb20
def xb21 := cx h107 xb19
def zb21 := zb19.refine xb21
def xb22 := cx h171 xb21
def zb22 := zb21.refine xb22
def xb23 := cx h139 xb21
def zb23 := zb21.refine xb23
def xb24 := cx (((.lss n0 v4),false) : SB × Bool) xb14
def zb24 := zb14.refine xb24
def xb25 := cx h168 g6
def zb25 := t6.cfg.refine xb25
def xb26 := cx h65 g8
def zb26 := t8.cfg.refine xb26
def xb27 := cx h91 xb26
def zb27 := zb26.refine xb27
def xb28 := cx h121 xb27
def zb28 := zb27.refine xb28
def xb29 := cx h120 xb28
def zb29 := zb28.refine xb29
def xb30 := cx h36 xb28
def zb30 := zb28.refine xb30
def xb31 := cx h130 xb30
def zb31 := zb30.refine xb31
def xb32 := cx h53 xb30
def zb32 := zb30.refine xb32
def xb33 := cx h141 xb32
def zb33 := zb32.refine xb33
def xb34 := cx h107 xb32
def zb34 := zb32.refine xb34
def xb35 := cx (((.lss (.rem (.sel .u64 r0 n0) n6) n5),false) : SB × Bool) xb27
def zb35 := zb27.refine xb35
def xb36 := cx h307 xb26
def zb36 := zb26.refine xb36
def xb37 := cx h168 g8
def zb37 := t8.cfg.refine xb37
def xb38 := cx h65 g10
def zb38 := t10.cfg.refine xb38
def xb39 := cx h91 xb38
def zb39 := zb38.refine xb39
def xb40 := cx h131 xb39
def zb40 := zb39.refine xb40
def xb41 := cx h120 xb40
def zb41 := zb40.refine xb41
def xb42 := cx h36 xb40
def zb42 := zb40.refine xb42
def xb43 := cx h130 xb42
def zb43 := zb42.refine xb43
def xb44 := cx h53 xb42
def zb44 := zb42.refine xb44
def xb45 := cx (((.lss (.rem (.sel .u64 r0 n0) n6) n4),false) : SB × Bool) xb39
def zb45 := zb39.refine xb45
def xb46 := cx h307 xb38
def zb46 := zb38.refine xb46
def xb47 := cx h168 g10
def zb47 := t10.cfg.refine xb47
def xb48 := cx h65 g12
def zb48 := t12.cfg.refine xb48
def xb49 := cx h91 xb48
def zb49 := zb48.refine xb49
def xb50 := cx h142 xb49
def zb50 := zb49.refine xb50
def xb51 := cx h120 xb50
def zb51 := zb50.refine xb51
def xb52 := cx h36 xb50
def zb52 := zb50.refine xb52
def xb53 := cx (((.lss (.rem (.sel .u64 r0 n0) n6) n3),false) : SB × Bool) xb49
def zb53 := zb49.refine xb53
def xb54 := cx h307 xb48
def zb54 := zb48.refine xb54
def xb55 := cx h168 g12
def zb55 := t12.cfg.refine xb55
def xb56 := cx h65 g14
def zb56 := t14.cfg.refine xb56
def xb57 := cx h91 xb56
def zb57 := zb56.refine xb57
def xb58 := cx h172 xb57
def zb58 := zb57.refine xb58
def xb59 := cx (((.lss (.rem (.sel .u64 r0 n0) n6) n2),false) : SB × Bool) xb57
def zb59 := zb57.refine xb59
def xb60 := cx h307 xb56
def zb60 := zb56.refine xb60
def xb61 := cx h168 g14
def zb61 := t14.cfg.refine xb61
def xb62 := cx h40 g23
def zb62 := t23.cfg.refine xb62
def xb63 := cx h33 xb62
def zb63 := zb62.refine xb63
def xb64 := cx h296 xb62
def zb64 := zb62.refine xb64
def xb65 := cx (((.lss v9 v3),false) : SB × Bool) g23
def zb65 := t23.cfg.refine xb65
def xb66 := cx h40 g26
def zb66 := t26.cfg.refine xb66
def xb67 := cx h33 xb66
def zb67 := zb66.refine xb67
def xb68 := cx h123 xb67
def zb68 := zb67.refine xb68
def xb69 := cx h70 xb68
def zb69 := zb68.refine xb69
def xb70 := cx h22 xb68
def zb70 := zb68.refine xb70
def xb71 := cx (((.lss (.rem (.sel .u64 r0 (.mul v9 n2)) n6) n2),false) : SB × Bool) xb67
def zb71 := zb67.refine xb71
def xb72 := cx h296 xb66
def zb72 := zb66.refine xb72
def xb73 := cx (((.lss v9 v3),false) : SB × Bool) g26
def zb73 := t26.cfg.refine xb73
def xb74 := cx h113 g27
def zb74 := t27.cfg.refine xb74
def xb75 := cx h114 g27
def zb75 := t27.cfg.refine xb75
def xb76 := cx h40 g29
def zb76 := t29.cfg.refine xb76
def xb77 := cx h33 xb76
def zb77 := zb76.refine xb77
def xb78 := cx h98 xb77
def zb78 := zb77.refine xb78
def xb79 := cx h70 xb78
def zb79 := zb78.refine xb79
def xb80 := cx h22 xb78
def zb80 := zb78.refine xb80
def xb81 := cx h99 xb80
def zb81 := zb80.refine xb81
def xb82 := cx h39 xb80
def zb82 := zb80.refine xb82
def xb83 := cx (((.lss (.rem (.sel .u64 r0 (.mul v9 n2)) n6) n3),false) : SB × Bool) xb77
def zb83 := zb77.refine xb83
def xb84 := cx h296 xb76
def zb84 := zb76.refine xb84
def xb85 := cx (((.lss v9 v3),false) : SB × Bool) g29
def zb85 := t29.cfg.refine xb85
def xb86 := cx h102 g30
def zb86 := t30.cfg.refine xb86
def xb87 := cx h72 xb86
def zb87 := zb86.refine xb87
def xb88 := cx h78 xb86
def zb88 := zb86.refine xb88
def xb89 := cx h101 g30
def zb89 := t30.cfg.refine xb89
def xb90 := cx h72 xb89
def zb90 := zb89.refine xb90
def xb91 := cx h78 xb89
def zb91 := zb89.refine xb91
def xb92 := cx h40 g32
def zb92 := t32.cfg.refine xb92
def xb93 := cx h33 xb92
def zb93 := zb92.refine xb93
def xb94 := cx h71 xb93
def zb94 := zb93.refine xb94
def xb95 := cx h70 xb94
def zb95 := zb94.refine xb95
def xb96 := cx h22 xb94
def zb96 := zb94.refine xb96
def xb97 := cx h99 xb96
def zb97 := zb96.refine xb97
def xb98 := cx h39 xb96
def zb98 := zb96.refine xb98
def xb99 := cx h124 xb98
def zb99 := zb98.refine xb99
def xb100 := cx h97 xb98
def zb100 := zb98.refine xb100
def xb101 := cx (((.lss (.rem (.sel .u64 r0 (.mul v9 n2)) n6) n4),false) : SB × Bool) xb93
def zb101 := zb93.refine xb101
def xb102 := cx h296 xb92
def zb102 := zb92.refine xb102
def xb103 := cx (((.lss v9 v3),false) : SB × Bool) g32
def zb103 := t32.cfg.refine xb103
def xb104 := cx h72 g33
def zb104 := t33.cfg.refine xb104
def xb105 := cx h30 xb104
def zb105 := zb104.refine xb105
def xb106 := cx h14 xb105
def zb106 := zb105.refine xb106
def xb107 := cx h8 xb105
def zb107 := zb105.refine xb107
def xb108 := cx h32 xb104
def zb108 := zb104.refine xb108
def xb109 := cx h14 xb108
def zb109 := zb108.refine xb109
def xb110 := cx h8 xb108
def zb110 := zb108.refine xb110
def xb111 := cx h78 g33
def zb111 := t33.cfg.refine xb111
def xb112 := cx h30 xb111
def zb112 := zb111.refine xb112
def xb113 := cx h14 xb112
def zb113 := zb112.refine xb113
def xb114 := cx h8 xb112
def zb114 := zb112.refine xb114
def xb115 := cx h32 xb111
def zb115 := zb111.refine xb115
def xb116 := cx h14 xb115
def zb116 := zb115.refine xb116
def xb117 := cx h8 xb115
def zb117 := zb115.refine xb117
def xb118 := cx h40 g35
def zb118 := t35.cfg.refine xb118
def xb119 := cx h33 xb118
def zb119 := zb118.refine xb119
def xb120 := cx h51 xb119
def zb120 := zb119.refine xb120
def xb121 := cx h70 xb120
def zb121 := zb120.refine xb121
def xb122 := cx h22 xb120
def zb122 := zb120.refine xb122
def xb123 := cx h99 xb122
def zb123 := zb122.refine xb123
def xb124 := cx h39 xb122
def zb124 := zb122.refine xb124
def xb125 := cx h124 xb124
def zb125 := zb124.refine xb125
def xb126 := cx h97 xb124
def zb126 := zb124.refine xb126
def xb127 := cx h161 xb126
def zb127 := zb126.refine xb127
def xb128 := cx h154 xb126
def zb128 := zb126.refine xb128
def xb129 := cx (((.lss (.rem (.sel .u64 r0 (.mul v9 n2)) n6) n5),false) : SB × Bool) xb119
def zb129 := zb119.refine xb129
def xb130 := cx h296 xb118
def zb130 := zb118.refine xb130
def xb131 := cx (((.lss v9 v3),false) : SB × Bool) g35
def zb131 := t35.cfg.refine xb131
def xb132 := cx h30 g36
def zb132 := t36.cfg.refine xb132
def xb133 := cx h14 xb132
def zb133 := zb132.refine xb133
def xb134 := cx h16 xb133
def zb134 := zb133.refine xb134
def xb135 := cx h20 xb134
def zb135 := zb134.refine xb135
def xb136 := cx h19 xb134
def zb136 := zb134.refine xb136
def xb137 := cx h15 xb133
def zb137 := zb133.refine xb137
def xb138 := cx h20 xb137
def zb138 := zb137.refine xb138
def xb139 := cx h19 xb137
def zb139 := zb137.refine xb139
def xb140 := cx h8 xb132
def zb140 := zb132.refine xb140
def xb141 := cx h16 xb140
def zb141 := zb140.refine xb141
def xb142 := cx h20 xb141
def zb142 := zb141.refine xb142
def xb143 := cx h19 xb141
def zb143 := zb141.refine xb143
def xb144 := cx h15 xb140
def zb144 := zb140.refine xb144
def xb145 := cx h20 xb144
def zb145 := zb144.refine xb145
def xb146 := cx h19 xb144
def zb146 := zb144.refine xb146
def xb147 := cx h32 g36
def zb147 := t36.cfg.refine xb147
def xb148 := cx h14 xb147
def zb148 := zb147.refine xb148
def xb149 := cx h16 xb148
def zb149 := zb148.refine xb149
def xb150 := cx h20 xb149
def zb150 := zb149.refine xb150
def xb151 := cx h19 xb149
def zb151 := zb149.refine xb151
def xb152 := cx h15 xb148
def zb152 := zb148.refine xb152
def xb153 := cx h20 xb152
def zb153 := zb152.refine xb153
def xb154 := cx h19 xb152
def zb154 := zb152.refine xb154
def xb155 := cx h8 xb147
def zb155 := zb147.refine xb155
def xb156 := cx h16 xb155
def zb156 := zb155.refine xb156
def xb157 := cx h20 xb156
def zb157 := zb156.refine xb157
def xb158 := cx h19 xb156
def zb158 := zb156.refine xb158
def xb159 := cx h15 xb155
def zb159 := zb155.refine xb159
def xb160 := cx h20 xb159
def zb160 := zb159.refine xb160
def xb161 := cx h19 xb159
def zb161 := zb159.refine xb161
def xb162 := cx h118 g38
def zb162 := t38.cfg.refine xb162
def xb163 := cx h89 xb162
def zb163 := zb162.refine xb163
def xb164 := cx h155 xb163
def zb164 := zb163.refine xb164
def xb165 := cx h48 xb163
def zb165 := zb163.refine xb165
def xb166 := cx h156 xb165
def zb166 := zb165.refine xb166
def xb167 := cx h67 xb165
def zb167 := zb165.refine xb167
def xb168 := cx h157 xb167
def zb168 := zb167.refine xb168
def xb169 := cx h90 xb167
def zb169 := zb167.refine xb169
def xb170 := cx h158 xb169
def zb170 := zb169.refine xb170
def xb171 := cx h122 xb169
def zb171 := zb169.refine xb171
def xb172 := cx h159 xb171
def zb172 := zb171.refine xb172
def xb173 := cx h153 xb171
def zb173 := zb171.refine xb173
def xb174 := cx (((.lss v10 (.lit 300)),false) : SB × Bool) xb162
def zb174 := zb162.refine xb174
def xb175 := cx (((.lss v10 v4),false) : SB × Bool) g38
def zb175 := t38.cfg.refine xb175
def xb176 := cx h14 g39
def zb176 := t39.cfg.refine xb176
def xb177 := cx h16 xb176
def zb177 := zb176.refine xb177
def xb178 := cx h20 xb177
def zb178 := zb177.refine xb178
def xb179 := cx h18 xb178
def zb179 := zb178.refine xb179
def xb180 := cx h24 xb179
def zb180 := zb179.refine xb180
def xb181 := cx h23 xb179
def zb181 := zb179.refine xb181
def xb182 := cx h17 xb178
def zb182 := zb178.refine xb182
def xb183 := cx h24 xb182
def zb183 := zb182.refine xb183
def xb184 := cx h23 xb182
def zb184 := zb182.refine xb184
def xb185 := cx h19 xb177
def zb185 := zb177.refine xb185
def xb186 := cx h18 xb185
def zb186 := zb185.refine xb186
def xb187 := cx h24 xb186
def zb187 := zb186.refine xb187
def xb188 := cx h23 xb186
def zb188 := zb186.refine xb188
def xb189 := cx h17 xb185
def zb189 := zb185.refine xb189
def xb190 := cx h24 xb189
def zb190 := zb189.refine xb190
def xb191 := cx h23 xb189
def zb191 := zb189.refine xb191
def xb192 := cx h15 xb176
def zb192 := zb176.refine xb192
def xb193 := cx h20 xb192
def zb193 := zb192.refine xb193
def xb194 := cx h18 xb193
def zb194 := zb193.refine xb194
def xb195 := cx h24 xb194
def zb195 := zb194.refine xb195
def xb196 := cx h23 xb194
def zb196 := zb194.refine xb196
def xb197 := cx h17 xb193
def zb197 := zb193.refine xb197
def xb198 := cx h24 xb197
def zb198 := zb197.refine xb198
def xb199 := cx h23 xb197
def zb199 := zb197.refine xb199
def xb200 := cx h19 xb192
def zb200 := zb192.refine xb200
def xb201 := cx h18 xb200
def zb201 := zb200.refine xb201
def xb202 := cx h24 xb201
def zb202 := zb201.refine xb202
def xb203 := cx h23 xb201
def zb203 := zb201.refine xb203
def xb204 := cx h17 xb200
def zb204 := zb200.refine xb204
def xb205 := cx h24 xb204
def zb205 := zb204.refine xb205
def xb206 := cx h23 xb204
def zb206 := zb204.refine xb206
def xb207 := cx h8 g39
def zb207 := t39.cfg.refine xb207
def xb208 := cx h16 xb207
def zb208 := zb207.refine xb208
def xb209 := cx h20 xb208
def zb209 := zb208.refine xb209
def xb210 := cx h18 xb209
def zb210 := zb209.refine xb210
def xb211 := cx h24 xb210
def zb211 := zb210.refine xb211
def xb212 := cx h23 xb210
def zb212 := zb210.refine xb212
def xb213 := cx h17 xb209
def zb213 := zb209.refine xb213
def xb214 := cx h24 xb213
def zb214 := zb213.refine xb214
def xb215 := cx h23 xb213
def zb215 := zb213.refine xb215
def xb216 := cx h19 xb208
def zb216 := zb208.refine xb216
def xb217 := cx h18 xb216
def zb217 := zb216.refine xb217
def xb218 := cx h24 xb217
def zb218 := zb217.refine xb218
def xb219 := cx h23 xb217
def zb219 := zb217.refine xb219
def xb220 := cx h17 xb216
def zb220 := zb216.refine xb220
def xb221 := cx h24 xb220
def zb221 := zb220.refine xb221
def xb222 := cx h23 xb220
def zb222 := zb220.refine xb222
def xb223 := cx h15 xb207
def zb223 := zb207.refine xb223
def xb224 := cx h20 xb223
def zb224 := zb223.refine xb224
def xb225 := cx h18 xb224
def zb225 := zb224.refine xb225
def xb226 := cx h24 xb225
def zb226 := zb225.refine xb226
def xb227 := cx h23 xb225
def zb227 := zb225.refine xb227
def xb228 := cx h17 xb224
def zb228 := zb224.refine xb228
def xb229 := cx h24 xb228
def zb229 := zb228.refine xb229
def xb230 := cx h23 xb228
def zb230 := zb228.refine xb230
def xb231 := cx h19 xb223
def zb231 := zb223.refine xb231
def xb232 := cx h18 xb231
def zb232 := zb231.refine xb232
def xb233 := cx h24 xb232
def zb233 := zb232.refine xb233
def xb234 := cx h23 xb232
def zb234 := zb232.refine xb234
def xb235 := cx h17 xb231
def zb235 := zb231.refine xb235
def xb236 := cx h24 xb235
def zb236 := zb235.refine xb236
def xb237 := cx h23 xb235
def zb237 := zb235.refine xb237
def xb238 := cx h14 g41
def zb238 := t41.cfg.refine xb238
def xb239 := cx h16 xb238
def zb239 := zb238.refine xb239
def xb240 := cx h20 xb239
def zb240 := zb239.refine xb240
def xb241 := cx h18 xb240
def zb241 := zb240.refine xb241
def xb242 := cx h24 xb241
def zb242 := zb241.refine xb242
def xb243 := cx h23 xb241
def zb243 := zb241.refine xb243
def xb244 := cx h17 xb240
def zb244 := zb240.refine xb244
def xb245 := cx h24 xb244
def zb245 := zb244.refine xb245
def xb246 := cx h23 xb244
def zb246 := zb244.refine xb246
def xb247 := cx h19 xb239
def zb247 := zb239.refine xb247
def xb248 := cx h18 xb247
def zb248 := zb247.refine xb248
def xb249 := cx h24 xb248
def zb249 := zb248.refine xb249
def xb250 := cx h23 xb248
def zb250 := zb248.refine xb250
def xb251 := cx h17 xb247
def zb251 := zb247.refine xb251
def xb252 := cx h24 xb251
def zb252 := zb251.refine xb252
def xb253 := cx h23 xb251
def zb253 := zb251.refine xb253
def xb254 := cx h15 xb238
def zb254 := zb238.refine xb254
def xb255 := cx h20 xb254
def zb255 := zb254.refine xb255
def xb256 := cx h18 xb255
def zb256 := zb255.refine xb256
def xb257 := cx h24 xb256
def zb257 := zb256.refine xb257
def xb258 := cx h23 xb256
def zb258 := zb256.refine xb258
def xb259 := cx h17 xb255
def zb259 := zb255.refine xb259
def xb260 := cx h24 xb259
def zb260 := zb259.refine xb260
def xb261 := cx h23 xb259
def zb261 := zb259.refine xb261
def xb262 := cx h19 xb254
def zb262 := zb254.refine xb262
def xb263 := cx h18 xb262
def zb263 := zb262.refine xb263
def xb264 := cx h24 xb263
def zb264 := zb263.refine xb264
def xb265 := cx h23 xb263
def zb265 := zb263.refine xb265
def xb266 := cx h17 xb262
def zb266 := zb262.refine xb266
def xb267 := cx h24 xb266
def zb267 := zb266.refine xb267
def xb268 := cx h23 xb266
def zb268 := zb266.refine xb268
def xb269 := cx h8 g41
def zb269 := t41.cfg.refine xb269
def xb270 := cx h16 xb269
def zb270 := zb269.refine xb270
def xb271 := cx h20 xb270
def zb271 := zb270.refine xb271
def xb272 := cx h18 xb271
def zb272 := zb271.refine xb272
def xb273 := cx h24 xb272
def zb273 := zb272.refine xb273
def xb274 := cx h23 xb272
def zb274 := zb272.refine xb274
def xb275 := cx h17 xb271
def zb275 := zb271.refine xb275
def xb276 := cx h24 xb275
def zb276 := zb275.refine xb276
def xb277 := cx h23 xb275
def zb277 := zb275.refine xb277
def xb278 := cx h19 xb270
def zb278 := zb270.refine xb278
def xb279 := cx h18 xb278
def zb279 := zb278.refine xb279
def xb280 := cx h24 xb279
def zb280 := zb279.refine xb280
def xb281 := cx h23 xb279
def zb281 := zb279.refine xb281
def xb282 := cx h17 xb278
def zb282 := zb278.refine xb282
def xb283 := cx h24 xb282
def zb283 := zb282.refine xb283
def xb284 := cx h23 xb282
def zb284 := zb282.refine xb284
def xb285 := cx h15 xb269
def zb285 := zb269.refine xb285
def xb286 := cx h20 xb285
def zb286 := zb285.refine xb286
def xb287 := cx h18 xb286
def zb287 := zb286.refine xb287
def xb288 := cx h24 xb287
def zb288 := zb287.refine xb288
def xb289 := cx h23 xb287
def zb289 := zb287.refine xb289
def xb290 := cx h17 xb286
def zb290 := zb286.refine xb290
def xb291 := cx h24 xb290
def zb291 := zb290.refine xb291
def xb292 := cx h23 xb290
def zb292 := zb290.refine xb292
def xb293 := cx h19 xb285
def zb293 := zb285.refine xb293
def xb294 := cx h18 xb293
def zb294 := zb293.refine xb294
def xb295 := cx h24 xb294
def zb295 := zb294.refine xb295
def xb296 := cx h23 xb294
def zb296 := zb294.refine xb296
def xb297 := cx h17 xb293
def zb297 := zb293.refine xb297
def xb298 := cx h24 xb297
def zb298 := zb297.refine xb298
def xb299 := cx h23 xb297
def zb299 := zb297.refine xb299
def xb300 := cx h30 g42
def zb300 := t42.cfg.refine xb300
def xb301 := cx h14 xb300
def zb301 := zb300.refine xb301
def xb302 := cx h16 xb301
def zb302 := zb301.refine xb302
def xb303 := cx h20 xb302
def zb303 := zb302.refine xb303
def xb304 := cx h19 xb302
def zb304 := zb302.refine xb304
def xb305 := cx h15 xb301
def zb305 := zb301.refine xb305
def xb306 := cx h20 xb305
def zb306 := zb305.refine xb306
def xb307 := cx h19 xb305
def zb307 := zb305.refine xb307
def xb308 := cx h8 xb300
def zb308 := zb300.refine xb308
def xb309 := cx h16 xb308
def zb309 := zb308.refine xb309
def xb310 := cx h20 xb309
def zb310 := zb309.refine xb310
def xb311 := cx h19 xb309
def zb311 := zb309.refine xb311
def xb312 := cx h15 xb308
def zb312 := zb308.refine xb312
def xb313 := cx h20 xb312
def zb313 := zb312.refine xb313
def xb314 := cx h19 xb312
def zb314 := zb312.refine xb314
def xb315 := cx h32 g42
def zb315 := t42.cfg.refine xb315
def xb316 := cx h14 xb315
def zb316 := zb315.refine xb316
def xb317 := cx h16 xb316
def zb317 := zb316.refine xb317
def xb318 := cx h20 xb317
def zb318 := zb317.refine xb318
def xb319 := cx h19 xb317
def zb319 := zb317.refine xb319
def xb320 := cx h15 xb316
def zb320 := zb316.refine xb320
def xb321 := cx h20 xb320
def zb321 := zb320.refine xb321
def xb322 := cx h19 xb320
def zb322 := zb320.refine xb322
def xb323 := cx h8 xb315
def zb323 := zb315.refine xb323
def xb324 := cx h16 xb323
def zb324 := zb323.refine xb324
def xb325 := cx h20 xb324
def zb325 := zb324.refine xb325
def xb326 := cx h19 xb324
def zb326 := zb324.refine xb326
def xb327 := cx h15 xb323
def zb327 := zb323.refine xb327
def xb328 := cx h20 xb327
def zb328 := zb327.refine xb328
def xb329 := cx h19 xb327
def zb329 := zb327.refine xb329
def xb330 := cx h72 g43
def zb330 := t43.cfg.refine xb330
def xb331 := cx h30 xb330
def zb331 := zb330.refine xb331
def xb332 := cx h14 xb331
def zb332 := zb331.refine xb332
def xb333 := cx h8 xb331
def zb333 := zb331.refine xb333
def xb334 := cx h32 xb330
def zb334 := zb330.refine xb334
def xb335 := cx h14 xb334
def zb335 := zb334.refine xb335
def xb336 := cx h8 xb334
def zb336 := zb334.refine xb336
def xb337 := cx h78 g43
def zb337 := t43.cfg.refine xb337
def xb338 := cx h30 xb337
def zb338 := zb337.refine xb338
def xb339 := cx h14 xb338
def zb339 := zb338.refine xb339
def xb340 := cx h8 xb338
def zb340 := zb338.refine xb340
def xb341 := cx h32 xb337
def zb341 := zb337.refine xb341
def xb342 := cx h14 xb341
def zb342 := zb341.refine xb342
def xb343 := cx h8 xb341
def zb343 := zb341.refine xb343
def xb344 := cx h102 g44
def zb344 := t44.cfg.refine xb344
def xb345 := cx h72 xb344
def zb345 := zb344.refine xb345
def xb346 := cx h78 xb344
def zb346 := zb344.refine xb346
def xb347 := cx h101 g44
def zb347 := t44.cfg.refine xb347
def xb348 := cx h72 xb347
def zb348 := zb347.refine xb348
def xb349 := cx h78 xb347
def zb349 := zb347.refine xb349
def xb350 := cx h113 g45
def zb350 := t45.cfg.refine xb350
def xb351 := cx h114 g45
def zb351 := t45.cfg.refine xb351
abbrev QQ (k : Nat) (m : Meas) (go : Bool) (g : Ctx) (c : Cfg) : Prop := PartΦ Try.prog cuts φ k m go g c
abbrev Q (k : Nat) (m : Meas) (g : Ctx) (c : Cfg) : Prop := QQ k m true g c
abbrev rk (n : Nat) : Meas := ⟨n,none,0,none,0,none⟩
abbrev H (g : Ctx) (c : Cfg) (d : List (List (SB × Bool) × Leaf)) : Prop := fullE (cuts.map ACut.u) (ends Try.prog (cuts.map ACut.u) 1000000 true g c) = fullD (cuts.map ACut.u) d
abbrev K (k : Nat) (m : Meas) (g : Ctx) (d : List (List (SB × Bool) × Leaf)) (cs : List Cl.LC) : Prop := (inB cuts.length d && Cl.allLeafK tab cuts k m g.rng d cs) = true
theorem pK {k : Nat} {m : Meas} {g : Ctx} {c : Cfg} {d : List (List (SB × Bool) × Leaf)} {cs : List Cl.LC} (h : H g c d) (k1 : K k m g d cs) : Q k m g c := Cl.partK 1000000 d cs h (Bool.and_eq_true_iff.1 k1).1 (Bool.and_eq_true_iff.1 k1).2
def cB : Cl.Ct := .bot
def cM (o : List Nat) : Cl.Ct := .lin o []
def cL (o : List Nat) (l : List (Nat × Nat)) : Cl.Ct := .lin o l
def cV (l : List Nat) : Cl.Ct := .us l .bot
def cU (l : List Nat) (k : Cl.Ct) : Cl.Ct := .us l k
def cN : Cl.Ct := .nil
def cK (r : Nat) (l : Cl.Ct) : Cl.Ct := .case r l
def cA (a r : Cl.Ct) : Cl.Ct := .alt a r
def cS (r : Cl.Ct) : Cl.Ct := .sk r
def cO (r : Cl.Ct) : Cl.Ct := .keep r
def cQ (q : Nat) (a b : Cl.Ct) : Cl.Ct := .neq q a b
def sA : Cl.St := .asms
def sP : Cl.St := .pass
def sE (r : Nat) : Cl.St := .ext r
def sU (l : List Nat) : Cl.St := .us l
def sN (r : Nat) (c : Cl.Ct) : Cl.St := .unit r c
def uZ : Cl.UC := {}
def uC (c : Cl.Ct) : Cl.UC := { off := some c }
def cI : Nat → Nat → Nat → List (Nat × Cl.Ct) → List (Nat × Cl.Ct)
  | _,_,0,r => r
  | i,j,n + 1,r => (i,.us [8 * j] .bot) :: cI (i + 1) (j + 1) n r
def pY : List Cl.St := [.asms,.pass]
def sB : Cl.St := .prods
def pX : Nat → List Cl.St
  | 0 => []
  | 1 => [.prods]
  | n + 2 => .prods :: .us [7] :: pX n
def pW (es : List Nat) (k : Nat) : List Cl.St := .asms :: (es.map sE ++ .pass :: pX k)
def lE : Cl.LC := {}
def lO (p : List Cl.St) (c : Cl.Ct) : Cl.LC := { pre := p,off := some c }
def lT (p : List Cl.St) (c : List (Nat × Cl.Ct)) (s : List (List Cl.Ct)) (w : Cl.WC) : Cl.LC := ⟨p,none,c,s,w⟩
def fl : List (List (Nat × SI)) → List (Nat × SI)
  | [] => []
  | a :: l => a ++ fl l
abbrev D_ := List (List (SB × Bool) × Leaf)
abbrev LT := List (SB × Bool) → D_
def L_ (x : Leaf) : LT := fun a => [(a,x)]
def K_ (b : SB) (l r : LT) : LT := fun a => l ((b,true) :: a) ++ r ((b,false) :: a)
def J_ (b : SB) (l r : LT) : LT := fun a => l ((b,false) :: a) ++ r ((b,true) :: a)
def M_ (b : SB) (t : Bool) (l : LT) : LT := fun a => l ((b,t) :: a)
def f0 : SB := (.lss (.mul v2 (.lit 255)) v4)
def f1 : SB := (.lss v1 v2)
def f2 : SB := (.lss n1 v11)
def f3 : SB := (.lss (.lit 10) (.add v10 v16))
def f4 : SB := (.lss (.lit 10) (.add v5 v11))
def f5 : SB := (.lss (.lit 10) (.add v6 v12))
def f6 : SB := (.lss (.lit 10) (.add v8 v14))
def f7 : SB := (.lss (.lit 10) (.add v7 v13))
def f8 : SB := (.lss (.lit 10) (.add v9 v15))
def f9 : SB := (.lss n0 v11)
def f10 : SB := (.lss n0 v12)
def f11 : SB := (.lss n0 v14)
def f12 : SB := (.lss n0 v5)
def f13 : SB := (.lss n0 v13)
def f14 : SB := (.lss n1 v12)
def f15 : SB := (.lss n1 v10)
def f16 : SB := (.lss (.mul v7 (.lit 255)) v8)
def f17 : SB := (.lss (.lit 10) (.add v5 v10))
def f18 : SB := (.lss (.lit 10) (.add v6 v11))
def f19 : SB := (.lss (.lit 10) (.add v7 v12))
def f20 : SB := (.lss (.lit 10) (.add v9 v14))
def f21 : SB := (.lss (.lit 10) (.add v8 v13))
def f22 : SB := (.lss n0 v15)
def f23 : SB := (.lss n0 v16)
def f24 : SB := (.lss n0 v10)
def f25 : SB := (.lss n0 v6)
def f26 : SB := (.eql (.rem (.sel .u64 r0 (.mul v9 n2)) n6) n0)
def f27 : SB := (.eql (.rem (.sel .u64 r0 n0) n6) n0)
def f28 : SB := (.lss n1 v13)
def f29 : SB := (.lss (.lit 10) (.add v7 v11))
def f30 : SB := (.lss (.lit 10) (.add v8 v12))
def f31 : SB := (.lss (.lit 10) (.add v6 v10))
def f32 : SB := (.lss (.lit 10) (.add v5 v9))
def f33 : SB := (.lss v9 (.lit 300))
def f34 : SB := (.lss n1 v9)
def f35 : SB := (.var 0)
def f36 : SB := (.lss n0 v8)
def f37 : SB := (.lss n0 v7)
def f38 : SB := (.eql (.rem (.sel .u64 r0 (.mul v9 n2)) n6) n1)
def f39 : SB := (.lss n0 v9)
def f40 : SB := (.lss v9 v7)
def f41 : SB := (.eql (.rem (.sel .u64 r0 n0) n6) n1)
def f42 : SB := (.lss v9 v3)
def f43 : SB := (.lss v11 v32)
def f44 : SB := (.eql (.rem (.sel .u64 r0 (.mul v10 n2)) n6) n0)
def f45 : SB := (.lss v8 v31)
def f46 : SB := (.lss (.rem (.sel .u64 r0 (.mul v9 n2)) n6) n5)
def f47 : SB := (.lss (.lit 10) (.add v38 v44))
def f48 : SB := (.lss (.lit 10) (.add v37 v43))
def f49 : SB := (.lss (.lit 10) (.add v36 v42))
def f50 : SB := (.lss (.lit 10) (.add v41 v47))
def f51 : SB := (.lss (.lit 10) (.add v40 v46))
def f52 : SB := (.lss (.lit 10) (.add v39 v45))
def f53 : SB := (.lss (.lit 10) (.add v38 v43))
def f54 : SB := (.lss (.lit 10) (.add v39 v44))
def f55 : SB := (.lss (.lit 10) (.add v37 v42))
def f56 : SB := (.lss (.lit 10) (.add v36 v41))
def f57 : SB := (.lss (.lit 10) (.add v35 v40))
def f58 : SB := (.lss (.mul v8 (.lit 255)) v9)
def f59 : SB := (.lss (.lit 10) (.add v7 v10))
def f60 : SB := (.lss (.lit 10) (.add v5 v8))
def f61 : SB := (.lss (.lit 10) (.add v6 v9))
def f62 : SB := (.lss n1 v14)
def f63 : SB := (.lss v14 v33)
def f64 : SB := (.lss (.lit 10) (.add v38 v42))
def f65 : SB := (.lss (.lit 10) (.add v37 v41))
def f66 : SB := (.lss (.lit 10) (.add v35 v39))
def f67 : SB := (.lss (.lit 10) (.add v36 v40))
def f68 : SB := (.var 2)
def f69 : SB := (.lss n0 v3)
def f70 : SB := (.eql v7 v6)
def f71 : SB := (.lss n1 v8)
def f72 : SB := (.eql (.rem (.sel .u64 r0 (.mul v10 n2)) n6) n1)
def f73 : SB := (.lss (.rem (.sel .u64 r0 (.mul v9 n2)) n6) n4)
def f74 : SB := (.eql (.rem (.sel .u64 r0 (.mul v9 n2)) n6) n2)
def f75 : SB := (.lss v21 (.add v39 v45))
def f76 : SB := (.lss v12 (.add v36 v42))
def f77 : SB := (.lss v24 (.add v40 v46))
def f78 : SB := (.lss v15 (.add v37 v43))
def f79 : SB := (.lss v27 (.add v41 v47))
def f80 : SB := (.lss v18 (.add v38 v44))
def f81 : SB := (.lss v11 (.add v35 v40))
def f82 : SB := (.lss v23 (.add v39 v44))
def f83 : SB := (.lss v14 (.add v36 v41))
def f84 : SB := (.lss v20 (.add v38 v43))
def f85 : SB := (.lss v17 (.add v37 v42))
def f86 : SB := (.var 1)
def f87 : SB := (.lss v12 v33)
def f88 : SB := (.eql (.rem (.sel .u64 r0 n0) n6) n2)
def f89 : SB := (.lss (.lit 10) (.add v36 v39))
def f90 : SB := (.lss (.lit 10) (.add v37 v40))
def f91 : SB := (.lss (.lit 10) (.add v35 v38))
def f92 : SB := (.lss v9 v32)
def f93 : SB := (.lss n0 v17)
def f94 : SB := (.lss v1 n6)
def f95 : SB := (.lss v11 (.add v35 v39))
def f96 : SB := (.lss v17 (.add v37 v41))
def f97 : SB := (.lss v20 (.add v38 v42))
def f98 : SB := (.lss v14 (.add v36 v40))
def f99 : SB := (.lss v15 v34)
def f100 : SB := (.var 3)
def f101 : SB := (.eql (.rem (.sel .u64 r0 (.mul v10 n2)) n6) n2)
def f102 : SB := (.lss (.rem (.sel .u64 r0 (.mul v9 n2)) n6) n3)
def f103 : SB := (.lss (.lit 10) (.add v36 v38))
def f104 : SB := (.lss (.lit 10) (.add v35 v37))
def f105 : SB := (.lss (.rem (.sel .u64 r0 n0) n6) n5)
def f106 : SB := (.lss v17 v34)
def f107 : SB := (.lss v17 (.add v37 v40))
def f108 : SB := (.lss v11 (.add v35 v38))
def f109 : SB := (.lss v14 (.add v36 v39))
def f110 : SB := (.lss v18 v35)
def f111 : SB := (.lss v11 (.add v35 v37))
def f112 : SB := (.lss v14 (.add v36 v38))
def f113 : SB := (.lss (.rem (.sel .u64 r0 n0) n6) n4)
def f114 : SB := (.lss v10 (.lit 300))
def f115 : SB := (.lss (.lit 10) (.add v6 v8))
def f116 : SB := (.lss (.lit 10) (.add v5 v7))
def f117 : SB := (.var 4)
def f118 : SB := (.eql (.rem (.sel .u64 r0 (.mul v10 n2)) n6) n3)
def f119 : SB := (.lss (.rem (.sel .u64 r0 (.mul v9 n2)) n6) n2)
def f120 : SB := (.lss v21 v36)
def f121 : SB := (.lss n0 v20)
def f122 : SB := (.lss (.lit 10) (.add v7 v35))
def f123 : SB := (.lss n1 v15)
def f124 : SB := (.lss v24 v37)
def f125 : SB := (.eql (.rem (.sel .u64 r0 n0) n6) n3)
def f126 : SB := (.lss (.rem (.sel .u64 r0 n0) n6) n3)
def f127 : SB := (.lss (.add v9 n1) v7)
def f128 : SB := (.lss n0 v35)
def f129 : SB := (.lss v10 v4)
def f130 : SB := (.lss v10 v8)
def f131 : SB := (.lss v20 v35)
def f132 : SB := (.var 5)
def f133 : SB := (.lss v11 (.add v7 v35))
def f134 : SB := (.lss n1 v7)
def f135 : SB := (.eql (.rem (.sel .u64 r0 (.mul v10 n2)) n6) n4)
def f136 : SB := (.eql (.rem (.sel .u64 r0 (.mul v9 n2)) n6) n3)
def f137 : SB := (.lss n0 v18)
def f138 : SB := (.lss n0 v21)
def f139 : SB := (.lss n0 v24)
def f140 : SB := (.lss n0 v37)
def f141 : SB := (.lss n0 v40)
def f142 : SB := (.lss n0 v38)
def f143 : SB := (.lss (.lit 10) (.add v2 v5))
def f144 : SB := (.lss n0 v4)
def f145 : SB := (.eql v8 v7)
def f146 : SB := (.lss n0 v36)
def f147 : SB := (.lss n0 v42)
def f148 : SB := (.lss n0 v39)
def f149 : SB := (.lss n1 v40)
def f150 : SB := (.lss n1 v42)
def f151 : SB := (.lss (.rem (.sel .u64 r0 n0) n6) n2)
def f152 : SB := (.eql v2 v1)
def f153 : SB := (.lss n0 v32)
def f154 : SB := (.lss n1 v32)
def f155 : SB := (.lss n0 v41)
def w0 : List SB := (ap [(.var 18),(.var 19),(.lit false)] (ap (sq 14 fun i => (.var (4+i))) [(.lit false)]))
def w1 : List SI := [r9,r2,r3,r4,r5,r6,r7,r8,r1]
def w2 : List SI := [r9,r2,r3,r4,r5,r6,r7,r8,(.con 0)]
def w3 : List SI := (ap [r9] (rp 8 (.con 0)))
def w4 : List SB := (ap [(.var 0),(.var 1),(.var 2),(.lit false)] (ap (sq 12 fun i => (.var (5+i))) [(.lit false),(.lit false)]))
def w5 : List SI := [r0,r8,r2,r3,r4,r5,r6,r7,r1]
def w6 : List SI := [r0,r8,r2,r3,r4,r5,r6,r7,(.con 0)]
def w7 : List SB := (ap [(.var 0),(.var 1),(.var 2),(.var 3),(.lit false)] (ap (sq 10 fun i => (.var (6+i))) (rp 3 (.lit false))))
def w8 : List SI := [r0,r1,r8,r3,r4,r5,r6,r7,r2]
def w9 : List SI := [r0,r1,r8,r3,r4,r5,r6,r7,(.con 0)]
def w10 : List SB := (ap (sq 5 fun i => (.var (0+i))) (ap [(.lit false)] (ap (sq 8 fun i => (.var (7+i))) (rp 4 (.lit false)))))
def w11 : List SI := [r0,r1,r2,r8,r4,r5,r6,r7,r3]
def w12 : List SI := [r0,r1,r2,r8,r4,r5,r6,r7,(.con 0)]
def w13 : List SB := (ap (sq 6 fun i => (.var (0+i))) (ap [(.lit false)] (ap (sq 6 fun i => (.var (8+i))) (rp 5 (.lit false)))))
def w14 : List SI := [r0,r1,r2,r3,r8,r5,r6,r7,r4]
def w15 : List SI := [r0,r1,r2,r3,r8,r5,r6,r7,(.con 0)]
def w16 : List SB := (ap (sq 7 fun i => (.var (0+i))) (ap [(.lit false)] (ap (sq 4 fun i => (.var (9+i))) (rp 6 (.lit false)))))
def w17 : List SI := [r0,r1,r2,r3,r4,r8,r6,r7,r5]
def w18 : List SI := [r0,r1,r2,r3,r4,r8,r6,r7,(.con 0)]
def w19 : List SB := (ap (sq 10 fun i => (.var (2+i))) (rp 6 (.lit false)))
def w20 : List SI := (ap [r0,r1,r2,r3,r4,r5,r6,r7,r8] (rp 6 (.con 0)))
def w21 : List SB := (rp 6 (.lit false))
def w22 : List SB := (ap (sq 10 fun i => (.var (0+i))) (rp 6 (.lit false)))
def w23 : List SI := [r0,r1,r2,r3,r4,r5,r6,r7,r8,r9,r10,r11,r12,r13,r14]
def w24 : List SB := (ap (sq 11 fun i => (.var (2+i))) (rp 5 (.lit false)))
def w25 : List SI := (ap [r0,r1,r2,r3,r4,r5,r6,r7,r8] (rp 5 (.con 0)))
def w26 : List SB := (rp 5 (.lit false))
def w27 : List SB := (ap (sq 11 fun i => (.var (0+i))) (rp 5 (.lit false)))
def w28 : List SI := [r0,r1,r2,r3,r4,r5,r6,r7,r8,r9,r10,r11,r12,r13]
def w29 : List SB := (ap (sq 12 fun i => (.var (2+i))) (rp 4 (.lit false)))
def w30 : List SI := (ap [r0,r1,r2,r3,r4,r5,r6,r7,r8] (rp 4 (.con 0)))
def w31 : List SB := (rp 4 (.lit false))
def w32 : List SB := (ap (sq 12 fun i => (.var (0+i))) (rp 4 (.lit false)))
def w33 : List SI := [r0,r1,r2,r3,r4,r5,r6,r7,r8,r9,r10,r11,r12]
def w34 : List SB := (ap (sq 13 fun i => (.var (2+i))) (rp 3 (.lit false)))
def w35 : List SI := (ap [r0,r1,r2,r3,r4,r5,r6,r7,r8] (rp 3 (.con 0)))
def w36 : List SB := (rp 3 (.lit false))
def w37 : List SB := (ap (sq 13 fun i => (.var (0+i))) (rp 3 (.lit false)))
def w38 : List SI := [r0,r1,r2,r3,r4,r5,r6,r7,r8,r9,r10,r11]
def w39 : List SB := (ap (sq 14 fun i => (.var (2+i))) [(.lit false),(.lit false)])
def w40 : List SI := [r0,r1,r2,r3,r4,r5,r6,r7,r8,(.con 0),(.con 0)]
def w41 : List SB := [(.lit false),(.lit false)]
def w42 : List SB := (ap (sq 14 fun i => (.var (0+i))) [(.lit false),(.lit false)])
def w43 : List SI := [r0,r1,r2,r3,r4,r5,r6,r7,r8,r9,r10]
def w44 : List SB := (ap (sq 15 fun i => (.var (2+i))) [(.lit false)])
def w45 : List SI := [r0,r1,r2,r3,r4,r5,r6,r7,r8,(.con 0)]
def w46 : List SB := [(.lit false)]
def w47 : List SB := (ap (sq 15 fun i => (.var (0+i))) [(.lit false)])
def w48 : List SI := [r0,r1,r2,r3,r4,r5,r6,r7,r8,r9]
def w49 : List SB := (ap [(.lit false)] (ap (sq 14 fun i => (.var (1+i))) [(.lit false)]))
def w50 : List SI := [(.upd r0 v2 (.add v4 v6))]
def w51 : List SI := [(.upd (.con 0) n0 (.add v4 v6))]
def w52 : List SB := (ap [(.lit false)] (ap (sq 13 fun i => (.var (1+i))) [(.lit false),(.lit false)]))
def w53 : List SB := (ap [(.var 0),(.lit false)] (ap (sq 12 fun i => (.var (2+i))) [(.lit false),(.lit false)]))
def w54 : List SI := [(.upd r0 v5 (.add v4 v9)),r1]
def w55 : List SI := [(.upd (.con 0) n0 (.add v4 v9)),r1]
def w56 : List SI := [r0,(.upd r1 v6 (.add v4 v10))]
def w57 : List SI := [r0,(.upd (.con 0) n0 (.add v4 v10))]
def w58 : List SB := (ap [(.lit false)] (ap (sq 12 fun i => (.var (1+i))) (rp 3 (.lit false))))
def w59 : List SB := (ap [(.var 0),(.lit false)] (ap (sq 11 fun i => (.var (2+i))) (rp 3 (.lit false))))
def w60 : List SB := (ap [(.var 0),(.var 1),(.lit false)] (ap (sq 10 fun i => (.var (3+i))) (rp 3 (.lit false))))
def w61 : List SI := [r0,r1,r2]
def w62 : List SI := [(.upd r0 v5 (.add v4 v11)),r1,r2]
def w63 : List SI := [(.upd (.con 0) n0 (.add v4 v11)),r1,r2]
def w64 : List SI := [r0,(.upd r1 v6 (.add v4 v12)),r2]
def w65 : List SI := [r0,(.upd (.con 0) n0 (.add v4 v12)),r2]
def w66 : List SI := [r0,r1,(.upd r2 v7 (.add v4 v13))]
def w67 : List SI := [r0,r1,(.upd (.con 0) n0 (.add v4 v13))]
def w68 : List SB := (ap [(.lit false)] (ap (sq 11 fun i => (.var (1+i))) (rp 4 (.lit false))))
def w69 : List SB := (ap [(.var 0),(.lit false)] (ap (sq 10 fun i => (.var (2+i))) (rp 4 (.lit false))))
def w70 : List SB := (ap [(.var 0),(.var 1),(.lit false)] (ap (sq 9 fun i => (.var (3+i))) (rp 4 (.lit false))))
def w71 : List SB := (ap [(.var 0),(.var 1),(.var 2),(.lit false)] (ap (sq 8 fun i => (.var (4+i))) (rp 4 (.lit false))))
def w72 : List SI := [r0,r1,r2,r3]
def w73 : List SI := [(.upd r0 v5 (.add v4 v13)),r1,r2,r3]
def w74 : List SI := [(.upd (.con 0) n0 (.add v4 v13)),r1,r2,r3]
def w75 : List SI := [r0,(.upd r1 v6 (.add v4 v14)),r2,r3]
def w76 : List SI := [r0,(.upd (.con 0) n0 (.add v4 v14)),r2,r3]
def w77 : List SI := [r0,r1,(.upd r2 v7 (.add v4 v15)),r3]
def w78 : List SI := [r0,r1,(.upd (.con 0) n0 (.add v4 v15)),r3]
def w79 : List SI := [r0,r1,r2,(.upd r3 v8 (.add v4 v16))]
def w80 : List SI := [r0,r1,r2,(.upd (.con 0) n0 (.add v4 v16))]
def w81 : List SB := (ap [(.lit false)] (ap (sq 10 fun i => (.var (1+i))) (rp 5 (.lit false))))
def w82 : List SB := (ap [(.var 0),(.lit false)] (ap (sq 9 fun i => (.var (2+i))) (rp 5 (.lit false))))
def w83 : List SB := (ap [(.var 0),(.var 1),(.lit false)] (ap (sq 8 fun i => (.var (3+i))) (rp 5 (.lit false))))
def w84 : List SB := (ap [(.var 0),(.var 1),(.var 2),(.lit false)] (ap (sq 7 fun i => (.var (4+i))) (rp 5 (.lit false))))
def w85 : List SB := (ap [(.var 0),(.var 1),(.var 2),(.var 3),(.lit false)] (ap (sq 6 fun i => (.var (5+i))) (rp 5 (.lit false))))
def w86 : List SI := [r0,r1,r2,r3,r4]
def w87 : List SI := [(.upd r0 v5 (.add v4 v15)),r1,r2,r3,r4]
def w88 : List SI := [(.upd (.con 0) n0 (.add v4 v15)),r1,r2,r3,r4]
def w89 : List SI := [r0,(.upd r1 v6 (.add v4 v16)),r2,r3,r4]
def w90 : List SI := [r0,(.upd (.con 0) n0 (.add v4 v16)),r2,r3,r4]
def w91 : List SI := [r0,r1,(.upd r2 v7 (.add v4 v17)),r3,r4]
def w92 : List SI := [r0,r1,(.upd (.con 0) n0 (.add v4 v17)),r3,r4]
def w93 : List SI := [r0,r1,r2,(.upd r3 v8 (.add v4 v18)),r4]
def w94 : List SI := [r0,r1,r2,(.upd (.con 0) n0 (.add v4 v18)),r4]
def w95 : List SI := [r0,r1,r2,r3,(.upd r4 v9 (.add v4 v19))]
def w96 : List SI := [r0,r1,r2,r3,(.upd (.con 0) n0 (.add v4 v19))]
def w97 : List SB := (ap [(.lit false)] (ap (sq 9 fun i => (.var (1+i))) (rp 6 (.lit false))))
def w98 : List SB := (ap [(.var 0),(.lit false)] (ap (sq 8 fun i => (.var (2+i))) (rp 6 (.lit false))))
def w99 : List SB := (ap [(.var 0),(.var 1),(.lit false)] (ap (sq 7 fun i => (.var (3+i))) (rp 6 (.lit false))))
def w100 : List SB := (ap [(.var 0),(.var 1),(.var 2),(.lit false)] (ap (sq 6 fun i => (.var (4+i))) (rp 6 (.lit false))))
def w101 : List SB := (ap [(.var 0),(.var 1),(.var 2),(.var 3),(.lit false)] (ap (sq 5 fun i => (.var (5+i))) (rp 6 (.lit false))))
def w102 : List SB := (ap (sq 5 fun i => (.var (0+i))) (ap [(.lit false),(.var 6),(.var 7),(.var 8),(.var 9)] (rp 6 (.lit false))))
def w103 : List SI := [r0,r1,r2,r3,r4,r5]
def w104 : List SI := [(.upd r0 v5 (.add v4 v17)),r1,r2,r3,r4,r5]
def w105 : List SI := [(.upd (.con 0) n0 (.add v4 v17)),r1,r2,r3,r4,r5]
def w106 : List SI := [r0,(.upd r1 v6 (.add v4 v18)),r2,r3,r4,r5]
def w107 : List SI := [r0,(.upd (.con 0) n0 (.add v4 v18)),r2,r3,r4,r5]
def w108 : List SI := [r0,r1,(.upd r2 v7 (.add v4 v19)),r3,r4,r5]
def w109 : List SI := [r0,r1,(.upd (.con 0) n0 (.add v4 v19)),r3,r4,r5]
def w110 : List SI := [r0,r1,r2,(.upd r3 v8 (.add v4 v20)),r4,r5]
def w111 : List SI := [r0,r1,r2,(.upd (.con 0) n0 (.add v4 v20)),r4,r5]
def w112 : List SI := [r0,r1,r2,r3,(.upd r4 v9 (.add v4 v21)),r5]
def w113 : List SI := [r0,r1,r2,r3,(.upd (.con 0) n0 (.add v4 v21)),r5]
def w114 : List SI := [r0,r1,r2,r3,r4,(.upd r5 v10 (.add v4 v22))]
def w115 : List SI := [r0,r1,r2,r3,r4,(.upd (.con 0) n0 (.add v4 v22))]
def o0 : List (Nat × SI) := [(8,n0),(9,n0),(10,n0)]
def o1 : List (Nat × SI) := [(11,n0),(12,n0),(13,n0)]
def o2 : List (Nat × SI) := [(14,n0),(15,n0),(16,n0)]
def o3 : List (Nat × SI) := [(17,n0),(18,n0),(19,n0)]
def o4 : List (Nat × SI) := [(20,n0),(21,n0),(22,n0)]
def o5 : List (Nat × SI) := [(23,n0),(24,n0),(25,n0)]
def o6 : List (Nat × SI) := [(7,n0),(8,n0)]
def o7 : List (Nat × SI) := [(7,.var 7),(8,.var 8)]
def o8 : List (Nat × SI) := (sq 9 fun i => ((6+i),n0))
def o9 : List (Nat × SI) := (sq 17 fun i => ((11+i),.var (12+i)))
def o10 : List (Nat × SI) := (sq 9 fun i => ((19+i),.var (20+i)))
def o11 : List (Nat × SI) := (sq 9 fun i => ((20+i),n0))
def o12 : List (Nat × SI) := (sq 8 fun i => ((11+i),.var (12+i)))
def o13 : List (Nat × SI) := (sq 8 fun i => ((19+i),.var (21+i)))
def o14 : List (Nat × SI) := [(12,.var 12),(13,.var 13)]
def o15 : List (Nat × SI) := (sq 26 fun i => ((14+i),.var (15+i)))
def o16 : List (Nat × SI) := (sq 18 fun i => ((22+i),.var (23+i)))
def o17 : List (Nat × SI) := (sq 9 fun i => ((32+i),n0))
def o18 : List (Nat × SI) := (sq 17 fun i => ((14+i),.var (15+i)))
def o19 : List (Nat × SI) := (sq 9 fun i => ((22+i),.var (23+i)))
def o20 : List (Nat × SI) := (sq 9 fun i => ((23+i),n0))
def o21 : List (Nat × SI) := (sq 8 fun i => ((14+i),.var (15+i)))
def o22 : List (Nat × SI) := (sq 9 fun i => ((31+i),.var (32+i)))
def o23 : List (Nat × SI) := [(12,n0),(13,n0)]
def o24 : List (Nat × SI) := (sq 18 fun i => ((23+i),n0))
def o25 : List (Nat × SI) := (sq 8 fun i => ((22+i),.var (24+i)))
def o26 : List (Nat × SI) := [(11,n0),(12,n0)]
def o27 : List (Nat × SI) := (sq 8 fun i => ((31+i),.var (33+i)))
def o28 : List (Nat × SI) := [(14,.var 14),(15,.var 15),(16,.var 16)]
def o29 : List (Nat × SI) := (sq 35 fun i => ((17+i),.var (18+i)))
def o30 : List (Nat × SI) := (sq 27 fun i => ((25+i),.var (26+i)))
def o31 : List (Nat × SI) := (sq 9 fun i => ((44+i),n0))
def o32 : List (Nat × SI) := [(14,.var 14),(15,.var 15)]
def o33 : List (Nat × SI) := (sq 26 fun i => ((17+i),.var (18+i)))
def o34 : List (Nat × SI) := (sq 18 fun i => ((25+i),.var (26+i)))
def o35 : List (Nat × SI) := (sq 9 fun i => ((35+i),n0))
def o36 : List (Nat × SI) := (sq 17 fun i => ((17+i),.var (18+i)))
def o37 : List (Nat × SI) := (sq 9 fun i => ((43+i),.var (44+i)))
def o38 : List (Nat × SI) := (sq 9 fun i => ((25+i),.var (26+i)))
def o39 : List (Nat × SI) := [(15,n0),(16,n0)]
def o40 : List (Nat × SI) := (sq 18 fun i => ((35+i),n0))
def o41 : List (Nat × SI) := (sq 9 fun i => ((26+i),n0))
def o42 : List (Nat × SI) := [(15,.var 15),(16,.var 16)]
def o43 : List (Nat × SI) := (sq 8 fun i => ((17+i),.var (18+i)))
def o44 : List (Nat × SI) := (sq 18 fun i => ((34+i),.var (35+i)))
def o45 : List (Nat × SI) := (sq 9 fun i => ((34+i),.var (35+i)))
def o46 : List (Nat × SI) := [(14,n0),(15,n0)]
def o47 : List (Nat × SI) := (sq 18 fun i => ((26+i),n0))
def o48 : List (Nat × SI) := (sq 27 fun i => ((26+i),n0))
def o49 : List (Nat × SI) := (sq 9 fun i => ((17+i),n0))
def o50 : List (Nat × SI) := (sq 8 fun i => ((25+i),.var (27+i)))
def o51 : List (Nat × SI) := [(13,n0),(14,n0)]
def o52 : List (Nat × SI) := (sq 8 fun i => ((34+i),.var (36+i)))
def o53 : List (Nat × SI) := [(13,n0),(14,n0),(15,n0)]
def o54 : List (Nat × SI) := (sq 8 fun i => ((43+i),.var (45+i)))
def o55 : List (Nat × SI) := (sq 4 fun i => ((16+i),.var (16+i)))
def o56 : List (Nat × SI) := (sq 7 fun i => ((20+i),.var (21+i)))
def o57 : List (Nat × SI) := (sq 36 fun i => ((27+i),.var (29+i)))
def o58 : List (Nat × SI) := (sq 9 fun i => ((56+i),n0))
def o59 : List (Nat × SI) := [(16,.var 16),(17,.var 17),(18,.var 18)]
def o60 : List (Nat × SI) := (sq 27 fun i => ((27+i),.var (29+i)))
def o61 : List (Nat × SI) := (sq 9 fun i => ((47+i),n0))
def o62 : List (Nat × SI) := [(16,.var 16),(17,.var 17)]
def o63 : List (Nat × SI) := (sq 18 fun i => ((27+i),.var (29+i)))
def o64 : List (Nat × SI) := (sq 9 fun i => ((54+i),.var (56+i)))
def o65 : List (Nat × SI) := [(18,n0),(19,n0)]
def o66 : List (Nat × SI) := (sq 18 fun i => ((47+i),n0))
def o67 : List (Nat × SI) := (sq 9 fun i => ((38+i),n0))
def o68 : List (Nat × SI) := [(18,.var 18),(19,.var 19)]
def o69 : List (Nat × SI) := (sq 9 fun i => ((27+i),.var (29+i)))
def o70 : List (Nat × SI) := (sq 18 fun i => ((45+i),.var (47+i)))
def o71 : List (Nat × SI) := (sq 9 fun i => ((45+i),.var (47+i)))
def o72 : List (Nat × SI) := [(17,n0),(18,n0)]
def o73 : List (Nat × SI) := (sq 18 fun i => ((38+i),n0))
def o74 : List (Nat × SI) := (sq 27 fun i => ((38+i),n0))
def o75 : List (Nat × SI) := (sq 9 fun i => ((29+i),n0))
def o76 : List (Nat × SI) := [(17,.var 17),(18,.var 18),(19,.var 19)]
def o77 : List (Nat × SI) := (sq 27 fun i => ((36+i),.var (38+i)))
def o78 : List (Nat × SI) := [(17,.var 17),(18,.var 18)]
def o79 : List (Nat × SI) := (sq 18 fun i => ((36+i),.var (38+i)))
def o80 : List (Nat × SI) := (sq 9 fun i => ((36+i),.var (38+i)))
def o81 : List (Nat × SI) := [(16,n0),(17,n0)]
def o82 : List (Nat × SI) := (sq 18 fun i => ((29+i),n0))
def o83 : List (Nat × SI) := [(16,n0),(17,n0),(18,n0)]
def o84 : List (Nat × SI) := (sq 27 fun i => ((29+i),n0))
def o85 : List (Nat × SI) := [(16,n0),(17,n0),(18,n0),(19,n0)]
def o86 : List (Nat × SI) := (sq 36 fun i => ((29+i),n0))
def o87 : List (Nat × SI) := (sq 8 fun i => ((27+i),.var (30+i)))
def o88 : List (Nat × SI) := (sq 10 fun i => ((19+i),n0))
def o89 : List (Nat × SI) := (sq 18 fun i => ((20+i),n0))
def o90 : List (Nat × SI) := (sq 8 fun i => ((36+i),.var (39+i)))
def o91 : List (Nat × SI) := [(15,n0),(16,n0),(17,n0)]
def o92 : List (Nat × SI) := (sq 8 fun i => ((45+i),.var (48+i)))
def o93 : List (Nat × SI) := [(15,n0),(16,n0),(17,n0),(18,n0)]
def o94 : List (Nat × SI) := (sq 8 fun i => ((54+i),.var (57+i)))
def o95 : List (Nat × SI) := (sq 5 fun i => ((18+i),.var (18+i)))
def o96 : List (Nat × SI) := (sq 7 fun i => ((23+i),.var (24+i)))
def o97 : List (Nat × SI) := (sq 45 fun i => ((30+i),.var (32+i)))
def o98 : List (Nat × SI) := (sq 9 fun i => ((68+i),n0))
def o99 : List (Nat × SI) := (sq 4 fun i => ((18+i),.var (18+i)))
def o100 : List (Nat × SI) := (sq 36 fun i => ((30+i),.var (32+i)))
def o101 : List (Nat × SI) := (sq 9 fun i => ((59+i),n0))
def o102 : List (Nat × SI) := [(18,.var 18),(19,.var 19),(20,.var 20)]
def o103 : List (Nat × SI) := (sq 27 fun i => ((30+i),.var (32+i)))
def o104 : List (Nat × SI) := (sq 9 fun i => ((66+i),.var (68+i)))
def o105 : List (Nat × SI) := [(21,n0),(22,n0)]
def o106 : List (Nat × SI) := (sq 18 fun i => ((59+i),n0))
def o107 : List (Nat × SI) := (sq 9 fun i => ((50+i),n0))
def o108 : List (Nat × SI) := [(21,.var 21),(22,.var 22)]
def o109 : List (Nat × SI) := (sq 18 fun i => ((30+i),.var (32+i)))
def o110 : List (Nat × SI) := (sq 18 fun i => ((57+i),.var (59+i)))
def o111 : List (Nat × SI) := (sq 9 fun i => ((57+i),.var (59+i)))
def o112 : List (Nat × SI) := [(20,n0),(21,n0)]
def o113 : List (Nat × SI) := (sq 18 fun i => ((50+i),n0))
def o114 : List (Nat × SI) := (sq 27 fun i => ((50+i),n0))
def o115 : List (Nat × SI) := (sq 9 fun i => ((41+i),n0))
def o116 : List (Nat × SI) := [(20,.var 20),(21,.var 21),(22,.var 22)]
def o117 : List (Nat × SI) := (sq 9 fun i => ((30+i),.var (32+i)))
def o118 : List (Nat × SI) := (sq 27 fun i => ((48+i),.var (50+i)))
def o119 : List (Nat × SI) := [(20,.var 20),(21,.var 21)]
def o120 : List (Nat × SI) := (sq 18 fun i => ((48+i),.var (50+i)))
def o121 : List (Nat × SI) := (sq 9 fun i => ((48+i),.var (50+i)))
def o122 : List (Nat × SI) := [(19,n0),(20,n0)]
def o123 : List (Nat × SI) := (sq 18 fun i => ((41+i),n0))
def o124 : List (Nat × SI) := [(19,n0),(20,n0),(21,n0)]
def o125 : List (Nat × SI) := (sq 27 fun i => ((41+i),n0))
def o126 : List (Nat × SI) := [(19,n0),(20,n0),(21,n0),(22,n0)]
def o127 : List (Nat × SI) := (sq 36 fun i => ((41+i),n0))
def o128 : List (Nat × SI) := (sq 4 fun i => ((19+i),.var (19+i)))
def o129 : List (Nat × SI) := (sq 36 fun i => ((39+i),.var (41+i)))
def o130 : List (Nat × SI) := [(19,.var 19),(20,.var 20),(21,.var 21)]
def o131 : List (Nat × SI) := (sq 27 fun i => ((39+i),.var (41+i)))
def o132 : List (Nat × SI) := [(19,.var 19),(20,.var 20)]
def o133 : List (Nat × SI) := (sq 18 fun i => ((39+i),.var (41+i)))
def o134 : List (Nat × SI) := (sq 9 fun i => ((39+i),.var (41+i)))
def o135 : List (Nat × SI) := (sq 18 fun i => ((32+i),n0))
def o136 : List (Nat × SI) := [(18,n0),(19,n0),(20,n0)]
def o137 : List (Nat × SI) := (sq 27 fun i => ((32+i),n0))
def o138 : List (Nat × SI) := [(18,n0),(19,n0),(20,n0),(21,n0)]
def o139 : List (Nat × SI) := (sq 36 fun i => ((32+i),n0))
def o140 : List (Nat × SI) := (sq 5 fun i => ((18+i),n0))
def o141 : List (Nat × SI) := (sq 45 fun i => ((32+i),n0))
def o142 : List (Nat × SI) := (sq 8 fun i => ((30+i),.var (33+i)))
def o143 : List (Nat × SI) := (sq 10 fun i => ((22+i),n0))
def o144 : List (Nat × SI) := (sq 11 fun i => ((21+i),n0))
def o145 : List (Nat × SI) := (sq 8 fun i => ((39+i),.var (42+i)))
def o146 : List (Nat × SI) := (sq 19 fun i => ((22+i),n0))
def o147 : List (Nat × SI) := (sq 27 fun i => ((23+i),n0))
def o148 : List (Nat × SI) := (sq 8 fun i => ((48+i),.var (51+i)))
def o149 : List (Nat × SI) := [(17,n0),(18,n0),(19,n0),(20,n0)]
def o150 : List (Nat × SI) := (sq 8 fun i => ((57+i),.var (60+i)))
def o151 : List (Nat × SI) := (sq 5 fun i => ((17+i),n0))
def o152 : List (Nat × SI) := (sq 8 fun i => ((66+i),.var (69+i)))
def o153 : List (Nat × SI) := (sq 6 fun i => ((23+i),.var (24+i)))
def o154 : List (Nat × SI) := (sq 45 fun i => ((30+i),.var (30+i)))
def o155 : List (Nat × SI) := (sq 36 fun i => ((30+i),.var (30+i)))
def o156 : List (Nat × SI) := (sq 27 fun i => ((30+i),.var (30+i)))
def o157 : List (Nat × SI) := (sq 9 fun i => ((66+i),.var (66+i)))
def o158 : List (Nat × SI) := (sq 18 fun i => ((30+i),.var (30+i)))
def o159 : List (Nat × SI) := (sq 18 fun i => ((57+i),.var (57+i)))
def o160 : List (Nat × SI) := (sq 9 fun i => ((57+i),.var (57+i)))
def o161 : List (Nat × SI) := (sq 9 fun i => ((30+i),.var (30+i)))
def o162 : List (Nat × SI) := (sq 27 fun i => ((48+i),.var (48+i)))
def o163 : List (Nat × SI) := (sq 18 fun i => ((48+i),.var (48+i)))
def o164 : List (Nat × SI) := (sq 9 fun i => ((48+i),.var (48+i)))
def o165 : List (Nat × SI) := (sq 36 fun i => ((39+i),.var (39+i)))
def o166 : List (Nat × SI) := (sq 27 fun i => ((39+i),.var (39+i)))
def o167 : List (Nat × SI) := (sq 18 fun i => ((39+i),.var (39+i)))
def o168 : List (Nat × SI) := (sq 9 fun i => ((39+i),.var (39+i)))
def o169 : List (Nat × SI) := (sq 8 fun i => ((23+i),n0))
def o170 : List (Nat × SI) := (sq 8 fun i => ((30+i),.var (31+i)))
def o171 : List (Nat × SI) := (sq 9 fun i => ((22+i),n0))
def o172 : List (Nat × SI) := (sq 10 fun i => ((21+i),n0))
def o173 : List (Nat × SI) := (sq 11 fun i => ((20+i),n0))
def o174 : List (Nat × SI) := (sq 8 fun i => ((39+i),.var (40+i)))
def o175 : List (Nat × SI) := (sq 8 fun i => ((48+i),.var (49+i)))
def o176 : List (Nat × SI) := (sq 8 fun i => ((57+i),.var (58+i)))
def o177 : List (Nat × SI) := (sq 8 fun i => ((66+i),.var (67+i)))
def o178 : List (Nat × SI) := (sq 6 fun i => ((20+i),.var (21+i)))
def o179 : List (Nat × SI) := (sq 36 fun i => ((27+i),.var (27+i)))
def o180 : List (Nat × SI) := (sq 27 fun i => ((27+i),.var (27+i)))
def o181 : List (Nat × SI) := (sq 18 fun i => ((27+i),.var (27+i)))
def o182 : List (Nat × SI) := (sq 9 fun i => ((54+i),.var (54+i)))
def o183 : List (Nat × SI) := (sq 9 fun i => ((27+i),.var (27+i)))
def o184 : List (Nat × SI) := (sq 18 fun i => ((45+i),.var (45+i)))
def o185 : List (Nat × SI) := (sq 9 fun i => ((45+i),.var (45+i)))
def o186 : List (Nat × SI) := (sq 27 fun i => ((36+i),.var (36+i)))
def o187 : List (Nat × SI) := (sq 18 fun i => ((36+i),.var (36+i)))
def o188 : List (Nat × SI) := (sq 9 fun i => ((36+i),.var (36+i)))
def o189 : List (Nat × SI) := (sq 8 fun i => ((20+i),n0))
def o190 : List (Nat × SI) := (sq 8 fun i => ((27+i),.var (28+i)))
def o191 : List (Nat × SI) := (sq 9 fun i => ((19+i),n0))
def o192 : List (Nat × SI) := (sq 10 fun i => ((18+i),n0))
def o193 : List (Nat × SI) := (sq 8 fun i => ((36+i),.var (37+i)))
def o194 : List (Nat × SI) := (sq 8 fun i => ((45+i),.var (46+i)))
def o195 : List (Nat × SI) := (sq 8 fun i => ((54+i),.var (55+i)))
def o196 : List (Nat × SI) := (sq 7 fun i => ((17+i),.var (18+i)))
def o197 : List (Nat × SI) := (sq 27 fun i => ((25+i),.var (25+i)))
def o198 : List (Nat × SI) := (sq 18 fun i => ((25+i),.var (25+i)))
def o199 : List (Nat × SI) := (sq 9 fun i => ((25+i),.var (25+i)))
def o200 : List (Nat × SI) := (sq 9 fun i => ((43+i),.var (43+i)))
def o201 : List (Nat × SI) := (sq 18 fun i => ((34+i),.var (34+i)))
def o202 : List (Nat × SI) := (sq 9 fun i => ((34+i),.var (34+i)))
def o203 : List (Nat × SI) := (sq 8 fun i => ((17+i),n0))
def o204 : List (Nat × SI) := (sq 8 fun i => ((25+i),.var (26+i)))
def o205 : List (Nat × SI) := (sq 9 fun i => ((16+i),n0))
def o206 : List (Nat × SI) := (sq 8 fun i => ((34+i),.var (35+i)))
def o207 : List (Nat × SI) := (sq 8 fun i => ((43+i),.var (44+i)))
def o208 : List (Nat × SI) := (sq 7 fun i => ((14+i),.var (15+i)))
def o209 : List (Nat × SI) := (sq 18 fun i => ((22+i),.var (22+i)))
def o210 : List (Nat × SI) := (sq 9 fun i => ((22+i),.var (22+i)))
def o211 : List (Nat × SI) := (sq 9 fun i => ((31+i),.var (31+i)))
def o212 : List (Nat × SI) := (sq 8 fun i => ((14+i),n0))
def o213 : List (Nat × SI) := (sq 8 fun i => ((22+i),.var (23+i)))
def o214 : List (Nat × SI) := (sq 8 fun i => ((31+i),.var (32+i)))
def o215 : List (Nat × SI) := (sq 7 fun i => ((11+i),.var (12+i)))
def o216 : List (Nat × SI) := (sq 9 fun i => ((19+i),.var (19+i)))
def o217 : List (Nat × SI) := (sq 8 fun i => ((19+i),.var (20+i)))
def o218 : List (Nat × SI) := (sq 8 fun i => ((6+i),n0))
def q0_ : List SI := (mkD i26_15 0 [(35,(.add v35 n1)),(37,(.add v37 (.lit (-1))))])
def q1_ : List SI := (mkD i26_15 0 [(8,(.add v8 (.sel .u8 r2 v36))),(36,(.add v36 n1)),(38,(.add v38 (.lit (-1))))])
def q2_ : List SI := (mkD i29_13 0 [(35,(.add v35 n1)),(38,(.add v38 (.lit (-1))))])
def q3_ : List SI := (mkD i29_13 0 [(8,(.add v8 (.sel .u8 r2 v36))),(36,(.add v36 n1)),(39,(.add v39 (.lit (-1))))])
def q4_ : List SI := (mkD i29_13 0 [(8,(.add v8 (.sel .u8 r3 v37))),(37,(.add v37 n1)),(40,(.add v40 (.lit (-1))))])
def q5_ : List SI := (mkD i32_11 0 [(8,(.add v8 (.sel .u8 r1 v35))),(35,(.add v35 n1)),(39,(.add v39 (.lit (-1))))])
def q6_ : List SI := (mkD i32_11 0 [(8,(.add v8 (.sel .u8 r2 v36))),(36,(.add v36 n1)),(40,(.add v40 (.lit (-1))))])
def q7_ : List SI := (mkD i32_11 0 [(8,(.add v8 (.sel .u8 r3 v37))),(37,(.add v37 n1)),(41,(.add v41 (.lit (-1))))])
def q8_ : List SI := (mkD i32_11 0 [(8,(.add v8 (.sel .u8 r4 v38))),(38,(.add v38 n1)),(42,(.add v42 (.lit (-1))))])
def q9_ : List SI := (mkD i35_9 0 [(8,(.add v8 (.sel .u8 r1 v35))),(35,(.add v35 n1)),(40,(.add v40 (.lit (-1))))])
def q10_ : List SI := (mkD i35_9 0 [(8,(.add v8 (.sel .u8 r2 v36))),(36,(.add v36 n1)),(41,(.add v41 (.lit (-1))))])
def q11_ : List SI := (mkD i35_9 0 [(8,(.add v8 (.sel .u8 r3 v37))),(37,(.add v37 n1)),(42,(.add v42 (.lit (-1))))])
def q12_ : List SI := (mkD i35_9 0 [(8,(.add v8 (.sel .u8 r4 v38))),(38,(.add v38 n1)),(43,(.add v43 (.lit (-1))))])
def q13_ : List SI := (mkD i35_9 0 [(8,(.add v8 (.sel .u8 r5 v39))),(39,(.add v39 n1)),(44,(.add v44 (.lit (-1))))])
def q14_ : List SI := (mkD i38_7 0 [(9,(.add v9 (.sel .u8 r1 v36))),(36,(.add v36 n1)),(42,(.add v42 (.lit (-1))))])
def q15_ : List SI := (mkD i38_7 0 [(9,(.add v9 (.sel .u8 r2 v37))),(37,(.add v37 n1)),(43,(.add v43 (.lit (-1))))])
def q16_ : List SI := (mkD i38_7 0 [(9,(.add v9 (.sel .u8 r3 v38))),(38,(.add v38 n1)),(44,(.add v44 (.lit (-1))))])
def q17_ : List SI := (mkD i38_7 0 [(9,(.add v9 (.sel .u8 r4 v39))),(39,(.add v39 n1)),(45,(.add v45 (.lit (-1))))])
def q18_ : List SI := (mkD i38_7 0 [(9,(.add v9 (.sel .u8 r5 v40))),(40,(.add v40 n1)),(46,(.add v46 (.lit (-1))))])
def q19_ : List SI := (mkD i38_7 0 [(9,(.add v9 (.sel .u8 r6 v41))),(41,(.add v41 n1)),(47,(.add v47 (.lit (-1))))])
def c0_ (l : List (List (Nat × SI))) (b : List SB) (r : List SI) : LT := L_ (.cut 0 (mkD is_0 0 (fl l)) b r)
def c1_ (l : List (List (Nat × SI))) (b : List SB) (r : List SI) : LT := L_ (.cut 18 (mkD is_18 0 (fl l)) b r)
def c2_ (l : List (List (Nat × SI))) (b : List SB) (r : List SI) : LT := L_ (.cut 1 (mkD i0_1 0 (fl l)) b r)
def c3_ (l : List (List (Nat × SI))) (b : List SB) (r : List SI) : LT := L_ (.cut 16 (mkI 31 0 (fl l)) b r)
def c4_ (l : List (List (Nat × SI))) (b : List SB) (r : List SI) : LT := L_ (.cut 2 (mkD i1_2 0 (fl l)) b r)
def c5_ (l : List (List (Nat × SI))) (b : List SB) (r : List SI) : LT := L_ (.cut 14 (mkI 33 0 (fl l)) b r)
def c6_ (l : List (List (Nat × SI))) (b : List SB) (r : List SI) : LT := L_ (.cut 3 (mkD i2_3 0 (fl l)) b r)
def c7_ (l : List (List (Nat × SI))) (b : List SB) (r : List SI) : LT := L_ (.cut 12 (mkI 34 0 (fl l)) b r)
def c8_ (l : List (List (Nat × SI))) (b : List SB) (r : List SI) : LT := L_ (.cut 4 (mkD i3_4 0 (fl l)) b r)
def c9_ (l : List (List (Nat × SI))) (b : List SB) (r : List SI) : LT := L_ (.cut 10 (mkI 35 0 (fl l)) b r)
def c10_ (l : List (List (Nat × SI))) (b : List SB) (r : List SI) : LT := L_ (.cut 5 (mkD i4_5 0 (fl l)) b r)
def c11_ (l : List (List (Nat × SI))) (b : List SB) (r : List SI) : LT := L_ (.cut 8 (mkI 36 0 (fl l)) b r)
def c12_ (l : List (List (Nat × SI))) (b : List SB) (r : List SI) : LT := L_ (.cut 7 (mkD i6_7 0 (fl l)) b r)
def c13_ (l : List (List (Nat × SI))) (b : List SB) (r : List SI) : LT := L_ (.cut 9 (mkD i8_9 0 (fl l)) b r)
def c14_ (l : List (List (Nat × SI))) (b : List SB) (r : List SI) : LT := L_ (.cut 11 (mkD i10_11 0 (fl l)) b r)
def c15_ (l : List (List (Nat × SI))) (b : List SB) (r : List SI) : LT := L_ (.cut 13 (mkD i12_13 0 (fl l)) b r)
def c16_ (l : List (List (Nat × SI))) (b : List SB) (r : List SI) : LT := L_ (.cut 15 (mkD i14_15 0 (fl l)) b r)
def c17_ (l : List (List (Nat × SI))) (b : List SB) (r : List SI) : LT := L_ (.cut 17 (mkD i16_17 0 (fl l)) b r)
def c18_ (l : List (List (Nat × SI))) (b : List SB) (r : List SI) : LT := L_ (.cut 19 (mkI 5 0 (fl l)) b r)
def c19_ (l : List (List (Nat × SI))) (b : List SB) (r : List SI) : LT := L_ (.cut 20 (mkI 5 0 (fl l)) b r)
def c20_ (l : List (List (Nat × SI))) (b : List SB) (r : List SI) : LT := L_ (.cut 17 (mkD i23_17 0 (fl l)) b r)
def c21_ (l : List (List (Nat × SI))) (b : List SB) (r : List SI) : LT := L_ (.cut 46 (mkD i24_46 0 (fl l)) b r)
def c22_ (l : List (List (Nat × SI))) (b : List SB) (r : List SI) : LT := L_ (.cut 25 (mkD i24_25 0 (fl l)) b r)
def c23_ (l : List (List (Nat × SI))) (b : List SB) (r : List SI) : LT := L_ (.cut 15 (mkD i26_15 0 (fl l)) b r)
def c24_ (l : List (List (Nat × SI))) (b : List SB) (r : List SI) : LT := L_ (.cut 45 (mkD i27_45 0 (fl l)) b r)
def c25_ (l : List (List (Nat × SI))) (b : List SB) (r : List SI) : LT := L_ (.cut 28 (mkD i27_28 0 (fl l)) b r)
def c26_ (l : List (List (Nat × SI))) (b : List SB) (r : List SI) : LT := L_ (.cut 13 (mkD i29_13 0 (fl l)) b r)
def c27_ (l : List (List (Nat × SI))) (b : List SB) (r : List SI) : LT := L_ (.cut 44 (mkD i30_44 0 (fl l)) b r)
def c28_ (l : List (List (Nat × SI))) (b : List SB) (r : List SI) : LT := L_ (.cut 31 (mkD i30_31 0 (fl l)) b r)
def c29_ (l : List (List (Nat × SI))) (b : List SB) (r : List SI) : LT := L_ (.cut 11 (mkD i32_11 0 (fl l)) b r)
def c30_ (l : List (List (Nat × SI))) (b : List SB) (r : List SI) : LT := L_ (.cut 43 (mkD i33_43 0 (fl l)) b r)
def c31_ (l : List (List (Nat × SI))) (b : List SB) (r : List SI) : LT := L_ (.cut 34 (mkD i33_34 0 (fl l)) b r)
def c32_ (l : List (List (Nat × SI))) (b : List SB) (r : List SI) : LT := L_ (.cut 9 (mkD i35_9 0 (fl l)) b r)
def c33_ (l : List (List (Nat × SI))) (b : List SB) (r : List SI) : LT := L_ (.cut 42 (mkD i36_42 0 (fl l)) b r)
def c34_ (l : List (List (Nat × SI))) (b : List SB) (r : List SI) : LT := L_ (.cut 37 (mkD i36_37 0 (fl l)) b r)
def c35_ (l : List (List (Nat × SI))) (b : List SB) (r : List SI) : LT := L_ (.cut 7 (mkD i38_7 0 (fl l)) b r)
def c36_ (l : List (List (Nat × SI))) (b : List SB) (r : List SI) : LT := L_ (.cut 41 (mkD i39_41 0 (fl l)) b r)
def c37_ (l : List (List (Nat × SI))) (b : List SB) (r : List SI) : LT := L_ (.cut 40 (mkD i39_40 0 (fl l)) b r)
def c38_ (l : List (List (Nat × SI))) (b : List SB) (r : List SI) : LT := L_ (.cut 41 (mkD i41_41 0 (fl l)) b r)
def c39_ (l : List (List (Nat × SI))) (b : List SB) (r : List SI) : LT := L_ (.cut 40 (mkD i41_40 0 (fl l)) b r)
def c40_ (l : List (List (Nat × SI))) (b : List SB) (r : List SI) : LT := L_ (.cut 42 (mkD i42_42 0 (fl l)) b r)
def c41_ (l : List (List (Nat × SI))) (b : List SB) (r : List SI) : LT := L_ (.cut 37 (mkD i42_37 0 (fl l)) b r)
def c42_ (l : List (List (Nat × SI))) (b : List SB) (r : List SI) : LT := L_ (.cut 43 (mkD i43_43 0 (fl l)) b r)
def c43_ (l : List (List (Nat × SI))) (b : List SB) (r : List SI) : LT := L_ (.cut 34 (mkD i43_34 0 (fl l)) b r)
def c44_ (l : List (List (Nat × SI))) (b : List SB) (r : List SI) : LT := L_ (.cut 44 (mkD i44_44 0 (fl l)) b r)
def c45_ (l : List (List (Nat × SI))) (b : List SB) (r : List SI) : LT := L_ (.cut 31 (mkD i44_31 0 (fl l)) b r)
def c46_ (l : List (List (Nat × SI))) (b : List SB) (r : List SI) : LT := L_ (.cut 45 (mkD i45_45 0 (fl l)) b r)
def c47_ (l : List (List (Nat × SI))) (b : List SB) (r : List SI) : LT := L_ (.cut 28 (mkD i45_28 0 (fl l)) b r)
def c48_ (l : List (List (Nat × SI))) (b : List SB) (r : List SI) : LT := L_ (.cut 46 (mkD i46_46 0 (fl l)) b r)
def c49_ (l : List (List (Nat × SI))) (b : List SB) (r : List SI) : LT := L_ (.cut 25 (mkD i46_25 0 (fl l)) b r)
def l0 : LT := c0_ [[(6,(.add (.add (.add (.add (.add (.add (.add (.add (.add (.sel .u8 r1 n0) (.sel .u8 r1 n1)) (.sel .u8 r1 n2)) (.sel .u8 r1 n3)) (.sel .u8 r1 n4)) (.sel .u8 r1 n5)) (.sel .u8 r1 n6)) (.sel .u8 r1 n7)) (.sel .u8 r1 n8)) (.sel .u8 r1 n9))),(7,(.lit 10))]] w0 w1
def l1 : LT := c2_ [[(6,(.add (.add (.add (.add (.add (.add (.add (.add (.add (.add v6 (.sel .u8 r1 n0)) (.sel .u8 r1 n1)) (.sel .u8 r1 n2)) (.sel .u8 r1 n3)) (.sel .u8 r1 n4)) (.sel .u8 r1 n5)) (.sel .u8 r1 n6)) (.sel .u8 r1 n7)) (.sel .u8 r1 n8)) (.sel .u8 r1 n9))),(7,(.add v7 (.lit 10))),(33,(.lit 10))]] w4 w5
def l2 : LT := c4_ [[(6,(.add (.add (.add (.add (.add (.add (.add (.add (.add (.add v6 (.sel .u8 r2 n0)) (.sel .u8 r2 n1)) (.sel .u8 r2 n2)) (.sel .u8 r2 n3)) (.sel .u8 r2 n4)) (.sel .u8 r2 n5)) (.sel .u8 r2 n6)) (.sel .u8 r2 n7)) (.sel .u8 r2 n8)) (.sel .u8 r2 n9))),(7,(.add v7 (.lit 10))),(34,(.lit 10))]] w7 w8
def l3 : LT := c6_ [[(6,(.add (.add (.add (.add (.add (.add (.add (.add (.add (.add v6 (.sel .u8 r3 n0)) (.sel .u8 r3 n1)) (.sel .u8 r3 n2)) (.sel .u8 r3 n3)) (.sel .u8 r3 n4)) (.sel .u8 r3 n5)) (.sel .u8 r3 n6)) (.sel .u8 r3 n7)) (.sel .u8 r3 n8)) (.sel .u8 r3 n9))),(7,(.add v7 (.lit 10))),(35,(.lit 10))]] w10 w11
def l4 : LT := c8_ [[(6,(.add (.add (.add (.add (.add (.add (.add (.add (.add (.add v6 (.sel .u8 r4 n0)) (.sel .u8 r4 n1)) (.sel .u8 r4 n2)) (.sel .u8 r4 n3)) (.sel .u8 r4 n4)) (.sel .u8 r4 n5)) (.sel .u8 r4 n6)) (.sel .u8 r4 n7)) (.sel .u8 r4 n8)) (.sel .u8 r4 n9))),(7,(.add v7 (.lit 10))),(36,(.lit 10))]] w13 w14
def l5 : LT := c10_ [[(6,(.add (.add (.add (.add (.add (.add (.add (.add (.add (.add v6 (.sel .u8 r5 n0)) (.sel .u8 r5 n1)) (.sel .u8 r5 n2)) (.sel .u8 r5 n3)) (.sel .u8 r5 n4)) (.sel .u8 r5 n5)) (.sel .u8 r5 n6)) (.sel .u8 r5 n7)) (.sel .u8 r5 n8)) (.sel .u8 r5 n9))),(7,(.add v7 (.lit 10))),(37,(.lit 10))]] w16 w17
def l6 : LT := L_ (.cut 6 i5_6 [(.var 0),(.var 1),(.var 2),(.var 3),(.var 4),(.var 5),(.var 6),(.var 7),(.var 8),(.var 9),(.var 10),(.var 11),(.lit false),(.lit false),(.lit false),(.lit false),(.lit false),(.lit false)] [r0,r1,r2,r3,r4,r5,r8,r6,r7])
def l7 : LT := c12_ [[(9,(.sel .u8 r1 n0)),(36,n1),(42,(.add v32 (.lit (-1))))]] [(.lit false),(.var 3),(.var 4),(.var 5),(.var 6),(.var 7),(.var 8),(.var 9),(.var 10),(.var 11),(.lit false),(.lit false),(.lit false),(.lit false),(.lit false),(.lit false)] [r0,r1,r2,r3,r4,r5,r6,r7,r8,(.upd (.con 0) n0 (.sel .u8 r1 n0)),(.con 0),(.con 0),(.con 0),(.con 0),(.con 0)]
def l8 : LT := L_ (.dead "")
def l9 : LT := c12_ [[(9,(.sel .u8 r2 n0)),(37,n1),(43,(.add v33 (.lit (-1))))]] [(.var 2),(.lit false),(.var 4),(.var 5),(.var 6),(.var 7),(.var 8),(.var 9),(.var 10),(.var 11),(.lit false),(.lit false),(.lit false),(.lit false),(.lit false),(.lit false)] [r0,r1,r2,r3,r4,r5,r6,r7,r8,(.con 0),(.upd (.con 0) n0 (.sel .u8 r2 n0)),(.con 0),(.con 0),(.con 0),(.con 0)]
def l10 : LT := c12_ [[(9,(.sel .u8 r3 n0)),(38,n1),(44,(.add v34 (.lit (-1))))]] [(.var 2),(.var 3),(.lit false),(.var 5),(.var 6),(.var 7),(.var 8),(.var 9),(.var 10),(.var 11),(.lit false),(.lit false),(.lit false),(.lit false),(.lit false),(.lit false)] [r0,r1,r2,r3,r4,r5,r6,r7,r8,(.con 0),(.con 0),(.upd (.con 0) n0 (.sel .u8 r3 n0)),(.con 0),(.con 0),(.con 0)]
def l11 : LT := c12_ [[(9,(.sel .u8 r4 n0)),(39,n1),(45,(.add v35 (.lit (-1))))]] [(.var 2),(.var 3),(.var 4),(.lit false),(.var 6),(.var 7),(.var 8),(.var 9),(.var 10),(.var 11),(.lit false),(.lit false),(.lit false),(.lit false),(.lit false),(.lit false)] [r0,r1,r2,r3,r4,r5,r6,r7,r8,(.con 0),(.con 0),(.con 0),(.upd (.con 0) n0 (.sel .u8 r4 n0)),(.con 0),(.con 0)]
def l12 : LT := c12_ [[(9,(.sel .u8 r5 n0)),(40,n1),(46,(.add v36 (.lit (-1))))]] [(.var 2),(.var 3),(.var 4),(.var 5),(.lit false),(.var 7),(.var 8),(.var 9),(.var 10),(.var 11),(.lit false),(.lit false),(.lit false),(.lit false),(.lit false),(.lit false)] [r0,r1,r2,r3,r4,r5,r6,r7,r8,(.con 0),(.con 0),(.con 0),(.con 0),(.upd (.con 0) n0 (.sel .u8 r5 n0)),(.con 0)]
def l13 : LT := c12_ [[(9,(.sel .u8 r6 n0)),(41,n1),(47,(.add v37 (.lit (-1))))]] [(.var 2),(.var 3),(.var 4),(.var 5),(.var 6),(.lit false),(.var 8),(.var 9),(.var 10),(.var 11),(.lit false),(.lit false),(.lit false),(.lit false),(.lit false),(.lit false)] [r0,r1,r2,r3,r4,r5,r6,r7,r8,(.con 0),(.con 0),(.con 0),(.con 0),(.con 0),(.upd (.con 0) n0 (.sel .u8 r6 n0))]
def l14 : LT := L_ (.cut 39 i6_39 w21 [(.con 0),(.con 0),(.con 0),(.con 0),(.con 0),(.con 0)])
def l15 : LT := L_ (.fin (.lit false))
def l16 : LT := L_ (.cut 38 i7_38 w22 w23)
def l17 : LT := c13_ [[(8,(.sel .u8 r1 n0)),(35,n1),(40,(.add v31 (.lit (-1))))]] [(.lit false),(.var 3),(.var 4),(.var 5),(.var 6),(.var 7),(.var 8),(.var 9),(.var 10),(.var 11),(.var 12),(.lit false),(.lit false),(.lit false),(.lit false),(.lit false)] [r0,r1,r2,r3,r4,r5,r6,r7,r8,(.upd (.con 0) n0 (.sel .u8 r1 n0)),(.con 0),(.con 0),(.con 0),(.con 0)]
def l18 : LT := c13_ [[(8,(.sel .u8 r2 n0)),(36,n1),(41,(.add v32 (.lit (-1))))]] [(.var 2),(.lit false),(.var 4),(.var 5),(.var 6),(.var 7),(.var 8),(.var 9),(.var 10),(.var 11),(.var 12),(.lit false),(.lit false),(.lit false),(.lit false),(.lit false)] [r0,r1,r2,r3,r4,r5,r6,r7,r8,(.con 0),(.upd (.con 0) n0 (.sel .u8 r2 n0)),(.con 0),(.con 0),(.con 0)]
def l19 : LT := c13_ [[(8,(.sel .u8 r3 n0)),(37,n1),(42,(.add v33 (.lit (-1))))]] [(.var 2),(.var 3),(.lit false),(.var 5),(.var 6),(.var 7),(.var 8),(.var 9),(.var 10),(.var 11),(.var 12),(.lit false),(.lit false),(.lit false),(.lit false),(.lit false)] [r0,r1,r2,r3,r4,r5,r6,r7,r8,(.con 0),(.con 0),(.upd (.con 0) n0 (.sel .u8 r3 n0)),(.con 0),(.con 0)]
def l20 : LT := c13_ [[(8,(.sel .u8 r4 n0)),(38,n1),(43,(.add v34 (.lit (-1))))]] [(.var 2),(.var 3),(.var 4),(.lit false),(.var 6),(.var 7),(.var 8),(.var 9),(.var 10),(.var 11),(.var 12),(.lit false),(.lit false),(.lit false),(.lit false),(.lit false)] [r0,r1,r2,r3,r4,r5,r6,r7,r8,(.con 0),(.con 0),(.con 0),(.upd (.con 0) n0 (.sel .u8 r4 n0)),(.con 0)]
def l21 : LT := c13_ [[(8,(.sel .u8 r5 n0)),(39,n1),(44,(.add v35 (.lit (-1))))]] [(.var 2),(.var 3),(.var 4),(.var 5),(.lit false),(.var 7),(.var 8),(.var 9),(.var 10),(.var 11),(.var 12),(.lit false),(.lit false),(.lit false),(.lit false),(.lit false)] [r0,r1,r2,r3,r4,r5,r6,r7,r8,(.con 0),(.con 0),(.con 0),(.con 0),(.upd (.con 0) n0 (.sel .u8 r5 n0))]
def l22 : LT := L_ (.cut 36 i8_36 w26 [(.con 0),(.con 0),(.con 0),(.con 0),(.con 0)])
def l23 : LT := L_ (.cut 35 i9_35 w27 w28)
def l24 : LT := c14_ [[(8,(.sel .u8 r1 n0)),(35,n1),(39,(.add v31 (.lit (-1))))]] [(.lit false),(.var 3),(.var 4),(.var 5),(.var 6),(.var 7),(.var 8),(.var 9),(.var 10),(.var 11),(.var 12),(.var 13),(.lit false),(.lit false),(.lit false),(.lit false)] [r0,r1,r2,r3,r4,r5,r6,r7,r8,(.upd (.con 0) n0 (.sel .u8 r1 n0)),(.con 0),(.con 0),(.con 0)]
def l25 : LT := c14_ [[(8,(.sel .u8 r2 n0)),(36,n1),(40,(.add v32 (.lit (-1))))]] [(.var 2),(.lit false),(.var 4),(.var 5),(.var 6),(.var 7),(.var 8),(.var 9),(.var 10),(.var 11),(.var 12),(.var 13),(.lit false),(.lit false),(.lit false),(.lit false)] [r0,r1,r2,r3,r4,r5,r6,r7,r8,(.con 0),(.upd (.con 0) n0 (.sel .u8 r2 n0)),(.con 0),(.con 0)]
def l26 : LT := c14_ [[(8,(.sel .u8 r3 n0)),(37,n1),(41,(.add v33 (.lit (-1))))]] [(.var 2),(.var 3),(.lit false),(.var 5),(.var 6),(.var 7),(.var 8),(.var 9),(.var 10),(.var 11),(.var 12),(.var 13),(.lit false),(.lit false),(.lit false),(.lit false)] [r0,r1,r2,r3,r4,r5,r6,r7,r8,(.con 0),(.con 0),(.upd (.con 0) n0 (.sel .u8 r3 n0)),(.con 0)]
def l27 : LT := c14_ [[(8,(.sel .u8 r4 n0)),(38,n1),(42,(.add v34 (.lit (-1))))]] [(.var 2),(.var 3),(.var 4),(.lit false),(.var 6),(.var 7),(.var 8),(.var 9),(.var 10),(.var 11),(.var 12),(.var 13),(.lit false),(.lit false),(.lit false),(.lit false)] [r0,r1,r2,r3,r4,r5,r6,r7,r8,(.con 0),(.con 0),(.con 0),(.upd (.con 0) n0 (.sel .u8 r4 n0))]
def l28 : LT := L_ (.cut 33 i10_33 w31 [(.con 0),(.con 0),(.con 0),(.con 0)])
def l29 : LT := L_ (.cut 32 i11_32 w32 w33)
def l30 : LT := c15_ [[(8,(.sel .u8 r1 n0)),(35,n1),(38,(.add v31 (.lit (-1))))]] [(.lit false),(.var 3),(.var 4),(.var 5),(.var 6),(.var 7),(.var 8),(.var 9),(.var 10),(.var 11),(.var 12),(.var 13),(.var 14),(.lit false),(.lit false),(.lit false)] [r0,r1,r2,r3,r4,r5,r6,r7,r8,(.upd (.con 0) n0 (.sel .u8 r1 n0)),(.con 0),(.con 0)]
def l31 : LT := c15_ [[(8,(.sel .u8 r2 n0)),(36,n1),(39,(.add v32 (.lit (-1))))]] [(.var 2),(.lit false),(.var 4),(.var 5),(.var 6),(.var 7),(.var 8),(.var 9),(.var 10),(.var 11),(.var 12),(.var 13),(.var 14),(.lit false),(.lit false),(.lit false)] [r0,r1,r2,r3,r4,r5,r6,r7,r8,(.con 0),(.upd (.con 0) n0 (.sel .u8 r2 n0)),(.con 0)]
def l32 : LT := c15_ [[(8,(.sel .u8 r3 n0)),(37,n1),(40,(.add v33 (.lit (-1))))]] [(.var 2),(.var 3),(.lit false),(.var 5),(.var 6),(.var 7),(.var 8),(.var 9),(.var 10),(.var 11),(.var 12),(.var 13),(.var 14),(.lit false),(.lit false),(.lit false)] [r0,r1,r2,r3,r4,r5,r6,r7,r8,(.con 0),(.con 0),(.upd (.con 0) n0 (.sel .u8 r3 n0))]
def l33 : LT := L_ (.cut 30 i12_30 w36 [(.con 0),(.con 0),(.con 0)])
def l34 : LT := L_ (.cut 29 i13_29 w37 w38)
def l35 : LT := c16_ [[(8,(.sel .u8 r1 n0)),(35,n1),(37,(.add v31 (.lit (-1))))]] [(.lit false),(.var 3),(.var 4),(.var 5),(.var 6),(.var 7),(.var 8),(.var 9),(.var 10),(.var 11),(.var 12),(.var 13),(.var 14),(.var 15),(.lit false),(.lit false)] [r0,r1,r2,r3,r4,r5,r6,r7,r8,(.upd (.con 0) n0 (.sel .u8 r1 n0)),(.con 0)]
def l36 : LT := c16_ [[(8,(.sel .u8 r2 n0)),(36,n1),(38,(.add v32 (.lit (-1))))]] [(.var 2),(.lit false),(.var 4),(.var 5),(.var 6),(.var 7),(.var 8),(.var 9),(.var 10),(.var 11),(.var 12),(.var 13),(.var 14),(.var 15),(.lit false),(.lit false)] [r0,r1,r2,r3,r4,r5,r6,r7,r8,(.con 0),(.upd (.con 0) n0 (.sel .u8 r2 n0))]
def l37 : LT := L_ (.cut 27 i14_27 w41 [(.con 0),(.con 0)])
def l38 : LT := L_ (.cut 26 i15_26 w42 w43)
def l39 : LT := L_ (.cut 17 i16_17 [(.lit false),(.var 3),(.var 4),(.var 5),(.var 6),(.var 7),(.var 8),(.var 9),(.var 10),(.var 11),(.var 12),(.var 13),(.var 14),(.var 15),(.var 16),(.lit false)] [r0,r1,r2,r3,r4,r5,r6,r7,r8,(.upd (.con 0) n0 (.sel .u8 r1 n0))])
def l40 : LT := L_ (.cut 24 i16_24 w46 [(.con 0)])
def l41 : LT := L_ (.cut 23 i17_23 w47 w48)
def l42 : LT := L_ (.cut 21 [n0] [] [])
def l43 : LT := L_ (.cut 21 [v4] [] [])
def l44 : LT := L_ (.cut 17 i23_17 w49 [r0,r1,r2,r3,r4,r5,r6,r7,r8,(.upd r9 v7 (.add v8 (.sel .u8 r1 v7)))])
def l45 : LT := L_ (.cut 17 i23_17 w49 [r0,r1,r2,r3,r4,r5,r6,r7,r8,(.upd (.con 0) n0 (.add v8 (.sel .u8 r1 v7)))])
def l46 : LT := c20_ [o7,[(34,(.wrap .i64 (.add v34 n1))),(35,v35)]] w47 w48
def l47 : LT := L_ (.cut 24 i23_24 w46 [r9])
def l48 : LT := L_ (.fin (.eql (.var 4) (.var 0)))
def l49 : LT := L_ (.cut 15 q0_ w52 [r0,r1,r2,r3,r4,r5,r6,r7,r8,(.upd r9 v35 (.add v8 (.sel .u8 r1 v35))),r10])
def l50 : LT := L_ (.cut 15 q0_ w52 [r0,r1,r2,r3,r4,r5,r6,r7,r8,(.upd (.con 0) n0 (.add v8 (.sel .u8 r1 v35))),r10])
def l51 : LT := c23_ [o7,[(34,(.wrap .i64 (.add v34 n1)))]] w42 w43
def l52 : LT := L_ (.cut 15 q1_ w53 [r0,r1,r2,r3,r4,r5,r6,r7,r8,r9,(.upd r10 v36 (.add v8 (.sel .u8 r2 v36)))])
def l53 : LT := L_ (.cut 15 q1_ w53 [r0,r1,r2,r3,r4,r5,r6,r7,r8,r9,(.upd (.con 0) n0 (.add v8 (.sel .u8 r2 v36)))])
def l54 : LT := L_ (.cut 27 i26_27 w41 [r9,r10])
def l55 : LT := L_ (.cut 13 q2_ w58 [r0,r1,r2,r3,r4,r5,r6,r7,r8,(.upd r9 v35 (.add v8 (.sel .u8 r1 v35))),r10,r11])
def l56 : LT := L_ (.cut 13 q2_ w58 [r0,r1,r2,r3,r4,r5,r6,r7,r8,(.upd (.con 0) n0 (.add v8 (.sel .u8 r1 v35))),r10,r11])
def l57 : LT := c26_ [o7,[(34,(.wrap .i64 (.add v34 n1)))]] w37 w38
def l58 : LT := L_ (.cut 13 q3_ w59 [r0,r1,r2,r3,r4,r5,r6,r7,r8,r9,(.upd r10 v36 (.add v8 (.sel .u8 r2 v36))),r11])
def l59 : LT := L_ (.cut 13 q3_ w59 [r0,r1,r2,r3,r4,r5,r6,r7,r8,r9,(.upd (.con 0) n0 (.add v8 (.sel .u8 r2 v36))),r11])
def l60 : LT := L_ (.cut 13 q4_ w60 [r0,r1,r2,r3,r4,r5,r6,r7,r8,r9,r10,(.upd r11 v37 (.add v8 (.sel .u8 r3 v37)))])
def l61 : LT := L_ (.cut 13 q4_ w60 [r0,r1,r2,r3,r4,r5,r6,r7,r8,r9,r10,(.upd (.con 0) n0 (.add v8 (.sel .u8 r3 v37)))])
def l62 : LT := L_ (.cut 30 i29_30 w36 [r9,r10,r11])
def l63 : LT := L_ (.cut 11 q5_ w68 [r0,r1,r2,r3,r4,r5,r6,r7,r8,(.upd r9 v35 (.add v8 (.sel .u8 r1 v35))),r10,r11,r12])
def l64 : LT := L_ (.cut 11 q5_ w68 [r0,r1,r2,r3,r4,r5,r6,r7,r8,(.upd (.con 0) n0 (.add v8 (.sel .u8 r1 v35))),r10,r11,r12])
def l65 : LT := c29_ [[(7,v7),(34,(.wrap .i64 (.add v34 n1)))]] w32 w33
def l66 : LT := L_ (.cut 11 q6_ w69 [r0,r1,r2,r3,r4,r5,r6,r7,r8,r9,(.upd r10 v36 (.add v8 (.sel .u8 r2 v36))),r11,r12])
def l67 : LT := L_ (.cut 11 q6_ w69 [r0,r1,r2,r3,r4,r5,r6,r7,r8,r9,(.upd (.con 0) n0 (.add v8 (.sel .u8 r2 v36))),r11,r12])
def l68 : LT := L_ (.cut 11 q7_ w70 [r0,r1,r2,r3,r4,r5,r6,r7,r8,r9,r10,(.upd r11 v37 (.add v8 (.sel .u8 r3 v37))),r12])
def l69 : LT := L_ (.cut 11 q7_ w70 [r0,r1,r2,r3,r4,r5,r6,r7,r8,r9,r10,(.upd (.con 0) n0 (.add v8 (.sel .u8 r3 v37))),r12])
def l70 : LT := L_ (.cut 11 q8_ w71 [r0,r1,r2,r3,r4,r5,r6,r7,r8,r9,r10,r11,(.upd r12 v38 (.add v8 (.sel .u8 r4 v38)))])
def l71 : LT := L_ (.cut 11 q8_ w71 [r0,r1,r2,r3,r4,r5,r6,r7,r8,r9,r10,r11,(.upd (.con 0) n0 (.add v8 (.sel .u8 r4 v38)))])
def l72 : LT := L_ (.cut 33 i32_33 w31 [r9,r10,r11,r12])
def l73 : LT := L_ (.cut 9 q9_ w81 [r0,r1,r2,r3,r4,r5,r6,r7,r8,(.upd r9 v35 (.add v8 (.sel .u8 r1 v35))),r10,r11,r12,r13])
def l74 : LT := L_ (.cut 9 q9_ w81 [r0,r1,r2,r3,r4,r5,r6,r7,r8,(.upd (.con 0) n0 (.add v8 (.sel .u8 r1 v35))),r10,r11,r12,r13])
def l75 : LT := c32_ [[(7,v7),(34,(.wrap .i64 (.add v34 n1)))]] w27 w28
def l76 : LT := L_ (.cut 9 q10_ w82 [r0,r1,r2,r3,r4,r5,r6,r7,r8,r9,(.upd r10 v36 (.add v8 (.sel .u8 r2 v36))),r11,r12,r13])
def l77 : LT := L_ (.cut 9 q10_ w82 [r0,r1,r2,r3,r4,r5,r6,r7,r8,r9,(.upd (.con 0) n0 (.add v8 (.sel .u8 r2 v36))),r11,r12,r13])
def l78 : LT := L_ (.cut 9 q11_ w83 [r0,r1,r2,r3,r4,r5,r6,r7,r8,r9,r10,(.upd r11 v37 (.add v8 (.sel .u8 r3 v37))),r12,r13])
def l79 : LT := L_ (.cut 9 q11_ w83 [r0,r1,r2,r3,r4,r5,r6,r7,r8,r9,r10,(.upd (.con 0) n0 (.add v8 (.sel .u8 r3 v37))),r12,r13])
def l80 : LT := L_ (.cut 9 q12_ w84 [r0,r1,r2,r3,r4,r5,r6,r7,r8,r9,r10,r11,(.upd r12 v38 (.add v8 (.sel .u8 r4 v38))),r13])
def l81 : LT := L_ (.cut 9 q12_ w84 [r0,r1,r2,r3,r4,r5,r6,r7,r8,r9,r10,r11,(.upd (.con 0) n0 (.add v8 (.sel .u8 r4 v38))),r13])
def l82 : LT := L_ (.cut 9 q13_ w85 [r0,r1,r2,r3,r4,r5,r6,r7,r8,r9,r10,r11,r12,(.upd r13 v39 (.add v8 (.sel .u8 r5 v39)))])
def l83 : LT := L_ (.cut 9 q13_ w85 [r0,r1,r2,r3,r4,r5,r6,r7,r8,r9,r10,r11,r12,(.upd (.con 0) n0 (.add v8 (.sel .u8 r5 v39)))])
def l84 : LT := L_ (.cut 36 i35_36 w26 [r9,r10,r11,r12,r13])
def l85 : LT := L_ (.cut 7 q14_ w97 [r0,r1,r2,r3,r4,r5,r6,r7,r8,(.upd r9 v36 (.add v9 (.sel .u8 r1 v36))),r10,r11,r12,r13,r14])
def l86 : LT := L_ (.cut 7 q14_ w97 [r0,r1,r2,r3,r4,r5,r6,r7,r8,(.upd (.con 0) n0 (.add v9 (.sel .u8 r1 v36))),r10,r11,r12,r13,r14])
def l87 : LT := c35_ [[(8,v8),(35,(.wrap .i64 (.add v35 n1)))]] w22 w23
def l88 : LT := L_ (.cut 7 q15_ w98 [r0,r1,r2,r3,r4,r5,r6,r7,r8,r9,(.upd r10 v37 (.add v9 (.sel .u8 r2 v37))),r11,r12,r13,r14])
def l89 : LT := L_ (.cut 7 q15_ w98 [r0,r1,r2,r3,r4,r5,r6,r7,r8,r9,(.upd (.con 0) n0 (.add v9 (.sel .u8 r2 v37))),r11,r12,r13,r14])
def l90 : LT := L_ (.cut 7 q16_ w99 [r0,r1,r2,r3,r4,r5,r6,r7,r8,r9,r10,(.upd r11 v38 (.add v9 (.sel .u8 r3 v38))),r12,r13,r14])
def l91 : LT := L_ (.cut 7 q16_ w99 [r0,r1,r2,r3,r4,r5,r6,r7,r8,r9,r10,(.upd (.con 0) n0 (.add v9 (.sel .u8 r3 v38))),r12,r13,r14])
def l92 : LT := L_ (.cut 7 q17_ w100 [r0,r1,r2,r3,r4,r5,r6,r7,r8,r9,r10,r11,(.upd r12 v39 (.add v9 (.sel .u8 r4 v39))),r13,r14])
def l93 : LT := L_ (.cut 7 q17_ w100 [r0,r1,r2,r3,r4,r5,r6,r7,r8,r9,r10,r11,(.upd (.con 0) n0 (.add v9 (.sel .u8 r4 v39))),r13,r14])
def l94 : LT := L_ (.cut 7 q18_ w101 [r0,r1,r2,r3,r4,r5,r6,r7,r8,r9,r10,r11,r12,(.upd r13 v40 (.add v9 (.sel .u8 r5 v40))),r14])
def l95 : LT := L_ (.cut 7 q18_ w101 [r0,r1,r2,r3,r4,r5,r6,r7,r8,r9,r10,r11,r12,(.upd (.con 0) n0 (.add v9 (.sel .u8 r5 v40))),r14])
def l96 : LT := L_ (.cut 7 q19_ w102 [r0,r1,r2,r3,r4,r5,r6,r7,r8,r9,r10,r11,r12,r13,(.upd r14 v41 (.add v9 (.sel .u8 r6 v41)))])
def l97 : LT := L_ (.cut 7 q19_ w102 [r0,r1,r2,r3,r4,r5,r6,r7,r8,r9,r10,r11,r12,r13,(.upd (.con 0) n0 (.add v9 (.sel .u8 r6 v41)))])
def l98 : LT := L_ (.cut 39 i38_39 w21 [r9,r10,r11,r12,r13,r14])
def a54 : List (SB × Bool) := [(f143,false),(f0,false)]
def a60 : List (SB × Bool) := [(f37,true),(f116,false),(f115,false),(f0,false)]
def a61 : List (SB × Bool) := [(f37,false),(f116,false),(f115,false),(f0,false)]
def a69 : List (SB × Bool) := [(f39,true),(f36,true),(f60,false),(f61,false),(f59,false),(f0,false)]
def a70 : List (SB × Bool) := [(f39,false),(f36,true),(f60,false),(f61,false),(f59,false),(f0,false)]
def a71 : List (SB × Bool) := [(f39,true),(f36,false),(f60,false),(f61,false),(f59,false),(f0,false)]
def a72 : List (SB × Bool) := [(f39,false),(f36,false),(f60,false),(f61,false),(f59,false),(f0,false)]
def a81 : List (SB × Bool) := [(f9,true),(f24,true),(f39,true),(f32,false),(f31,false),(f29,false),(f30,false),(f0,false)]
def a82 : List (SB × Bool) := [(f9,false),(f24,true),(f39,true),(f32,false),(f31,false),(f29,false),(f30,false),(f0,false)]
def a83 : List (SB × Bool) := [(f9,true),(f24,false),(f39,true),(f32,false),(f31,false),(f29,false),(f30,false),(f0,false)]
def a84 : List (SB × Bool) := [(f9,false),(f24,false),(f39,true),(f32,false),(f31,false),(f29,false),(f30,false),(f0,false)]
def a85 : List (SB × Bool) := [(f9,true),(f24,true),(f39,false),(f32,false),(f31,false),(f29,false),(f30,false),(f0,false)]
def a86 : List (SB × Bool) := [(f9,false),(f24,true),(f39,false),(f32,false),(f31,false),(f29,false),(f30,false),(f0,false)]
def a87 : List (SB × Bool) := [(f9,true),(f24,false),(f39,false),(f32,false),(f31,false),(f29,false),(f30,false),(f0,false)]
def a88 : List (SB × Bool) := [(f9,false),(f24,false),(f39,false),(f32,false),(f31,false),(f29,false),(f30,false),(f0,false)]
def a98 : List (SB × Bool) := [(f13,true),(f10,true),(f9,true),(f24,true),(f17,false),(f18,false),(f19,false),(f21,false),(f20,false),(f0,false)]
def a99 : List (SB × Bool) := [(f13,false),(f10,true),(f9,true),(f24,true),(f17,false),(f18,false),(f19,false),(f21,false),(f20,false),(f0,false)]
def a100 : List (SB × Bool) := [(f13,true),(f10,false),(f9,true),(f24,true),(f17,false),(f18,false),(f19,false),(f21,false),(f20,false),(f0,false)]
def a101 : List (SB × Bool) := [(f13,false),(f10,false),(f9,true),(f24,true),(f17,false),(f18,false),(f19,false),(f21,false),(f20,false),(f0,false)]
def a102 : List (SB × Bool) := [(f13,true),(f10,true),(f9,false),(f24,true),(f17,false),(f18,false),(f19,false),(f21,false),(f20,false),(f0,false)]
def a103 : List (SB × Bool) := [(f13,false),(f10,true),(f9,false),(f24,true),(f17,false),(f18,false),(f19,false),(f21,false),(f20,false),(f0,false)]
def a104 : List (SB × Bool) := [(f13,true),(f10,false),(f9,false),(f24,true),(f17,false),(f18,false),(f19,false),(f21,false),(f20,false),(f0,false)]
def a105 : List (SB × Bool) := [(f13,false),(f10,false),(f9,false),(f24,true),(f17,false),(f18,false),(f19,false),(f21,false),(f20,false),(f0,false)]
def a106 : List (SB × Bool) := [(f13,true),(f10,true),(f9,true),(f24,false),(f17,false),(f18,false),(f19,false),(f21,false),(f20,false),(f0,false)]
def a107 : List (SB × Bool) := [(f13,false),(f10,true),(f9,true),(f24,false),(f17,false),(f18,false),(f19,false),(f21,false),(f20,false),(f0,false)]
def a108 : List (SB × Bool) := [(f13,true),(f10,false),(f9,true),(f24,false),(f17,false),(f18,false),(f19,false),(f21,false),(f20,false),(f0,false)]
def a109 : List (SB × Bool) := [(f13,false),(f10,false),(f9,true),(f24,false),(f17,false),(f18,false),(f19,false),(f21,false),(f20,false),(f0,false)]
def a110 : List (SB × Bool) := [(f13,true),(f10,true),(f9,false),(f24,false),(f17,false),(f18,false),(f19,false),(f21,false),(f20,false),(f0,false)]
def a111 : List (SB × Bool) := [(f13,false),(f10,true),(f9,false),(f24,false),(f17,false),(f18,false),(f19,false),(f21,false),(f20,false),(f0,false)]
def a112 : List (SB × Bool) := [(f13,true),(f10,false),(f9,false),(f24,false),(f17,false),(f18,false),(f19,false),(f21,false),(f20,false),(f0,false)]
def a113 : List (SB × Bool) := [(f13,false),(f10,false),(f9,false),(f24,false),(f17,false),(f18,false),(f19,false),(f21,false),(f20,false),(f0,false)]
def a123 : List (SB × Bool) := [(f22,true),(f11,true),(f13,true),(f10,true),(f9,true),(f4,false),(f5,false),(f7,false),(f6,false),(f8,false),(f3,false),(f0,false)]
def a124 : List (SB × Bool) := [(f22,false),(f11,true),(f13,true),(f10,true),(f9,true),(f4,false),(f5,false),(f7,false),(f6,false),(f8,false),(f3,false),(f0,false)]
def a125 : List (SB × Bool) := [(f22,true),(f11,false),(f13,true),(f10,true),(f9,true),(f4,false),(f5,false),(f7,false),(f6,false),(f8,false),(f3,false),(f0,false)]
def a126 : List (SB × Bool) := [(f22,false),(f11,false),(f13,true),(f10,true),(f9,true),(f4,false),(f5,false),(f7,false),(f6,false),(f8,false),(f3,false),(f0,false)]
def a127 : List (SB × Bool) := [(f22,true),(f11,true),(f13,false),(f10,true),(f9,true),(f4,false),(f5,false),(f7,false),(f6,false),(f8,false),(f3,false),(f0,false)]
def a128 : List (SB × Bool) := [(f22,false),(f11,true),(f13,false),(f10,true),(f9,true),(f4,false),(f5,false),(f7,false),(f6,false),(f8,false),(f3,false),(f0,false)]
def a129 : List (SB × Bool) := [(f22,true),(f11,false),(f13,false),(f10,true),(f9,true),(f4,false),(f5,false),(f7,false),(f6,false),(f8,false),(f3,false),(f0,false)]
def a130 : List (SB × Bool) := [(f22,false),(f11,false),(f13,false),(f10,true),(f9,true),(f4,false),(f5,false),(f7,false),(f6,false),(f8,false),(f3,false),(f0,false)]
def a131 : List (SB × Bool) := [(f22,true),(f11,true),(f13,true),(f10,false),(f9,true),(f4,false),(f5,false),(f7,false),(f6,false),(f8,false),(f3,false),(f0,false)]
def a132 : List (SB × Bool) := [(f22,false),(f11,true),(f13,true),(f10,false),(f9,true),(f4,false),(f5,false),(f7,false),(f6,false),(f8,false),(f3,false),(f0,false)]
def a133 : List (SB × Bool) := [(f22,true),(f11,false),(f13,true),(f10,false),(f9,true),(f4,false),(f5,false),(f7,false),(f6,false),(f8,false),(f3,false),(f0,false)]
def a134 : List (SB × Bool) := [(f22,false),(f11,false),(f13,true),(f10,false),(f9,true),(f4,false),(f5,false),(f7,false),(f6,false),(f8,false),(f3,false),(f0,false)]
def a135 : List (SB × Bool) := [(f22,true),(f11,true),(f13,false),(f10,false),(f9,true),(f4,false),(f5,false),(f7,false),(f6,false),(f8,false),(f3,false),(f0,false)]
def a136 : List (SB × Bool) := [(f22,false),(f11,true),(f13,false),(f10,false),(f9,true),(f4,false),(f5,false),(f7,false),(f6,false),(f8,false),(f3,false),(f0,false)]
def a137 : List (SB × Bool) := [(f22,true),(f11,false),(f13,false),(f10,false),(f9,true),(f4,false),(f5,false),(f7,false),(f6,false),(f8,false),(f3,false),(f0,false)]
def a138 : List (SB × Bool) := [(f22,false),(f11,false),(f13,false),(f10,false),(f9,true),(f4,false),(f5,false),(f7,false),(f6,false),(f8,false),(f3,false),(f0,false)]
def a139 : List (SB × Bool) := [(f22,true),(f11,true),(f13,true),(f10,true),(f9,false),(f4,false),(f5,false),(f7,false),(f6,false),(f8,false),(f3,false),(f0,false)]
def a140 : List (SB × Bool) := [(f22,false),(f11,true),(f13,true),(f10,true),(f9,false),(f4,false),(f5,false),(f7,false),(f6,false),(f8,false),(f3,false),(f0,false)]
def a141 : List (SB × Bool) := [(f22,true),(f11,false),(f13,true),(f10,true),(f9,false),(f4,false),(f5,false),(f7,false),(f6,false),(f8,false),(f3,false),(f0,false)]
def a142 : List (SB × Bool) := [(f22,false),(f11,false),(f13,true),(f10,true),(f9,false),(f4,false),(f5,false),(f7,false),(f6,false),(f8,false),(f3,false),(f0,false)]
def a143 : List (SB × Bool) := [(f22,true),(f11,true),(f13,false),(f10,true),(f9,false),(f4,false),(f5,false),(f7,false),(f6,false),(f8,false),(f3,false),(f0,false)]
def a144 : List (SB × Bool) := [(f22,false),(f11,true),(f13,false),(f10,true),(f9,false),(f4,false),(f5,false),(f7,false),(f6,false),(f8,false),(f3,false),(f0,false)]
def a145 : List (SB × Bool) := [(f22,true),(f11,false),(f13,false),(f10,true),(f9,false),(f4,false),(f5,false),(f7,false),(f6,false),(f8,false),(f3,false),(f0,false)]
def a146 : List (SB × Bool) := [(f22,false),(f11,false),(f13,false),(f10,true),(f9,false),(f4,false),(f5,false),(f7,false),(f6,false),(f8,false),(f3,false),(f0,false)]
def a147 : List (SB × Bool) := [(f22,true),(f11,true),(f13,true),(f10,false),(f9,false),(f4,false),(f5,false),(f7,false),(f6,false),(f8,false),(f3,false),(f0,false)]
def a148 : List (SB × Bool) := [(f22,false),(f11,true),(f13,true),(f10,false),(f9,false),(f4,false),(f5,false),(f7,false),(f6,false),(f8,false),(f3,false),(f0,false)]
def a149 : List (SB × Bool) := [(f22,true),(f11,false),(f13,true),(f10,false),(f9,false),(f4,false),(f5,false),(f7,false),(f6,false),(f8,false),(f3,false),(f0,false)]
def a150 : List (SB × Bool) := [(f22,false),(f11,false),(f13,true),(f10,false),(f9,false),(f4,false),(f5,false),(f7,false),(f6,false),(f8,false),(f3,false),(f0,false)]
def a151 : List (SB × Bool) := [(f22,true),(f11,true),(f13,false),(f10,false),(f9,false),(f4,false),(f5,false),(f7,false),(f6,false),(f8,false),(f3,false),(f0,false)]
def a152 : List (SB × Bool) := [(f22,false),(f11,true),(f13,false),(f10,false),(f9,false),(f4,false),(f5,false),(f7,false),(f6,false),(f8,false),(f3,false),(f0,false)]
def a153 : List (SB × Bool) := [(f22,true),(f11,false),(f13,false),(f10,false),(f9,false),(f4,false),(f5,false),(f7,false),(f6,false),(f8,false),(f3,false),(f0,false)]
def a154 : List (SB × Bool) := [(f22,false),(f11,false),(f13,false),(f10,false),(f9,false),(f4,false),(f5,false),(f7,false),(f6,false),(f8,false),(f3,false),(f0,false)]
def p0 : Cl.LC := lO pY cB
def p1 : Cl.LC := lT (pW [] 1) [(0,(cQ 10 (cM [522,3]) (cM [522,0]))),(1,(cQ 10 (cM [522,51]) (cM [522,48]))),(2,(cQ 10 (cM [99,522,63]) (cM [96,522,60])))] [] .non
def p2 : Cl.LC := lO pY (cM [0,24])
def p3 : Cl.LC := lT (pW [] 1) [(0,(cQ 10 (cM [522,3]) (cM [522,0]))),(1,(cQ 10 (cM [522,51]) (cM [522,48]))),(2,(cQ 10 (cM [99,522,15423]) (cM [96,522,15420])))] [] .non
def p4 : Cl.LC := lT (pW [] 1) [(2,(cQ 10 (cM [99,522,63]) (cM [96,522,60])))] [] .non
def p5 : Cl.LC := lT (pW [] 1) [(1,(cQ 10 (cM [522,51]) (cM [522,48]))),(2,(cQ 10 (cM [99,522,63]) (cM [96,522,60])))] [] .non
def p6 : Cl.LC := lT (pW [] 1) [(0,(cQ 10 (cM [522,3]) (cM [522,0]))),(1,(cQ 10 (cM [522,51]) (cM [522,48]))),(2,(cQ 10 (cM [99,522,30783]) (cM [96,522,30780])))] [] .non
def p7 : Cl.LC := lT pY [(0,(cQ 10 (cM [522,3]) (cM [522,0]))),(1,(cQ 10 (cM [522,51]) (cM [522,48]))),(2,(cQ 10 (cM [522,99]) (cM [522,96])))] [] .non
def p8 : Cl.LC := lT (pW [] 1) [(2,(cQ 10 (cM [99,522,13887]) (cM [96,522,13884])))] [] .non
def p9 : Cl.LC := lT (pW [] 1) [(1,(cQ 10 (cM [522,51]) (cM [522,48]))),(2,(cQ 10 (cM [99,522,13887]) (cM [96,522,13884])))] [] .non
def p10 : Cl.LC := lT (pW [] 1) [(0,(cQ 10 (cM [522,3]) (cM [522,0]))),(1,(cQ 10 (cM [522,51]) (cM [522,48]))),(2,(cQ 10 (cM [99,522,46143]) (cM [96,522,46140])))] [] .non
def p11 : Cl.LC := lT (pW [] 1) [(2,(cQ 10 (cM [99,522,29247]) (cM [96,522,29244])))] [] .non
def p12 : Cl.LC := lT (pW [] 1) [(1,(cQ 10 (cM [522,51]) (cM [522,48]))),(2,(cQ 10 (cM [99,522,29247]) (cM [96,522,29244])))] [] .non
def p13 : Cl.LC := lO pY (cM [0,72])
def p14 : Cl.LC := lT (pW [] 1) [(0,(cQ 10 (cM [522,3]) (cM [522,0]))),(2,(cQ 10 (cM [522,51]) (cM [522,48])))] [] .non
def p15 : Cl.LC := lT pY [(0,(cQ 10 (cM [522,3]) (cM [522,0]))),(2,(cQ 10 (cM [522,51]) (cM [522,48])))] [] .non
def p16 : Cl.LC := lT (pW [] 1) [(0,(cQ 10 (cM [522,3]) (cM [522,0]))),(1,(cQ 10 (cM [522,51]) (cM [522,48])))] [] .non
def p17 : Cl.LC := lT (pW [] 1) [(0,(cQ 10 (cM [522,3]) (cM [522,0]))),(1,(cQ 10 (cM [522,51]) (cM [522,48]))),(2,(cQ 10 (cM [99,522,61503]) (cM [96,522,61500])))] [] .non
def p18 : Cl.LC := lT pY [(0,(cQ 10 (cM [522,3]) (cM [522,0]))),(1,(cQ 10 (cM [522,51]) (cM [522,48])))] [] .non
def p19 : Cl.LC := lT (pW [] 1) [(0,(cQ 10 (cM [522,3]) (cM [522,0]))),(1,(cQ 10 (cM [522,51]) (cM [522,48]))),(2,(cQ 10 (cM [522,99,15423]) (cM [96,522,15420])))] [] .non
def p20 : Cl.LC := lT (pW [] 1) [(2,(cQ 10 (cM [99,522,44607]) (cM [96,522,44604])))] [] .non
def p21 : Cl.LC := lT (pW [] 1) [(1,(cQ 10 (cM [522,51]) (cM [522,48]))),(2,(cQ 10 (cM [99,522,44607]) (cM [96,522,44604])))] [] .non
def p22 : Cl.LC := lT (pW [] 1) [(0,(cQ 10 (cM [522,3]) (cM [522,0]))),(2,(cQ 10 (cM [51,522,63]) (cM [48,522,60])))] [] .non
def p23 : Cl.LC := lT (pW [] 1) [(0,(cQ 10 (cM [522,3]) (cM [522,0]))),(1,(cQ 10 (cM [522,51]) (cM [522,48]))),(2,(cQ 10 (cM [522,99,63]) (cM [96,522,60])))] [] .non
def p24 : Cl.LC := lT (pW [] 1) [(0,(cQ 10 (cM [522,3]) (cM [522,0]))),(1,(cQ 10 (cM [522,51]) (cM [522,48]))),(2,(cQ 10 (cM [522,99]) (cM [522,96])))] [] .non
def p25 : Cl.LC := lT (pW [] 1) [(0,(cQ 10 (cM [522,3]) (cM [522,0]))),(1,(cQ 10 (cM [522,51]) (cM [522,48]))),(2,(cQ 10 (cM [522,99,30783]) (cM [96,522,30780])))] [] .non
def p26 : Cl.LC := lT (pW [] 1) [(0,(cQ 10 (cM [522,3]) (cM [522,0]))),(2,(cQ 10 (cM [51,522,15423]) (cM [48,522,15420])))] [] .non
def p27 : Cl.LC := lT (pW [] 1) [(0,(cQ 10 (cM [522,3]) (cM [522,0]))),(1,(cQ 10 (cM [522,51]) (cM [522,48]))),(2,(cQ 10 (cM [522,99,46143]) (cM [96,522,46140])))] [] .non
def p28 : Cl.LC := lT (pW [] 1) [(0,(cQ 10 (cM [522,3]) (cM [522,0]))),(2,(cQ 10 (cM [51,522,30783]) (cM [48,522,30780])))] [] .non
def p29 : Cl.LC := lT (pW [] 1) [(0,(cQ 10 (cM [522,3]) (cM [522,0]))),(1,(cQ 10 (cM [522,51]) (cM [522,48]))),(2,(cQ 10 (cM [522,99,61503]) (cM [96,522,61500])))] [] .non
def p30 : Cl.LC := lT (pW [] 1) [(0,(cQ 10 (cM [522,3]) (cM [522,0]))),(2,(cQ 10 (cM [51,522,46143]) (cM [48,522,46140])))] [] .non
def p31 : Cl.LC := lT (pW [] 1) [(0,(cQ 10 (cM [522,3]) (cM [522,0]))),(1,(cQ 10 (cM [51,522,63]) (cM [48,522,60])))] [] .non
def p32 : Cl.LC := lT (pW [] 1) [(2,(cQ 10 (cM [522,99,63]) (cM [96,522,60])))] [] .non
def p33 : Cl.LC := lT (pW [] 1) [(1,(cQ 10 (cM [522,51]) (cM [522,48]))),(2,(cQ 10 (cM [522,99,63]) (cM [96,522,60])))] [] .non
def p34 : Cl.LC := lT (pW [] 1) [(2,(cQ 10 (cM [522,99,13887]) (cM [96,522,13884])))] [] .non
def p35 : Cl.LC := lT (pW [] 1) [(1,(cQ 10 (cM [522,51]) (cM [522,48]))),(2,(cQ 10 (cM [522,99,13887]) (cM [96,522,13884])))] [] .non
def p36 : Cl.LC := lT pY [(1,(cQ 10 (cM [522,3]) (cM [522,0])))] [] .non
def p37 : Cl.LC := lT (pW [] 1) [(0,(cQ 10 (cM [522,3]) (cM [522,0]))),(1,(cQ 10 (cM [522,51]) (cM [522,48]))),(2,(cQ 10 (cM [99,522,76863]) (cM [96,522,76860])))] [] .non
def p38 : Cl.LC := lT (pW [] 1) [(0,(cQ 10 (cM [522,3]) (cM [522,0]))),(1,(cQ 10 (cM [522,51]) (cM [522,48]))),(2,(cQ 10 (cM [522,99,76863]) (cM [96,522,76860])))] [] .non
def p39 : Cl.LC := lT (pW [] 1) [(2,(cQ 10 (cM [522,99,29247]) (cM [96,522,29244])))] [] .non
def p40 : Cl.LC := lT (pW [] 1) [(1,(cQ 10 (cM [522,51]) (cM [522,48]))),(2,(cQ 10 (cM [522,99,29247]) (cM [96,522,29244])))] [] .non
def p41 : Cl.LC := lT (pW [] 1) [(2,(cQ 10 (cM [99,522,59967]) (cM [96,522,59964])))] [] .non
def p42 : Cl.LC := lT (pW [] 1) [(1,(cQ 10 (cM [522,51]) (cM [522,48]))),(2,(cQ 10 (cM [99,522,59967]) (cM [96,522,59964])))] [] .non
def p43 : Cl.LC := lT (pW [] 1) [(1,(cQ 10 (cM [522,3]) (cM [522,0])))] [] .non
def p44 : Cl.LC := lT (pW [] 1) [(0,(cQ 10 (cM [522,3]) (cM [522,0]))),(2,(cQ 10 (cM [51,522,61503]) (cM [48,522,61500])))] [] .non
def p45 : Cl.LC := lT (pW [] 1) [(2,(cQ 10 (cM [522,99,44607]) (cM [96,522,44604])))] [] .non
def p46 : Cl.LC := lT (pW [] 1) [(1,(cQ 10 (cM [522,51]) (cM [522,48]))),(2,(cQ 10 (cM [522,99,44607]) (cM [96,522,44604])))] [] .non
def p47 : Cl.LC := lT [sA,sU (ap [2,10,258,266,514,522,770,778,1026,1034,1282,1290,1538,1546,1794,1802,2050,2058,2306] (sq 11 fun i => (2314+256*i))),sU [7]] [(0,(cQ 10 (cM [29244,16956,20028,26172,21564,27708,15420,18492,24636,522,23100]) (cM [29247,16959,20031,26175,21567,27711,15423,18495,24639,522,23103])))] [] .non
def p48 : Cl.LC := lT (ap [sA] (ap (sq 10 fun i => sE (10+256*i)) [sU (ap (sq 11 fun i => (2+256*i)) [2570,2578,2818,2826,2834,3074,3082,3090,3330,3338,3346,3586,3594,3602,3842,3850,3858,4098,4106,4114,4354,4362,4370,4610,4618,4626,4866,4874,4882]),sU [7]])) [] [] .non
def p49 : Cl.LC := lT (pW [] 1) [(1,(cQ 10 (cM [41532,44604,32316,38460,33852,39996,43068,30780,36924,3,522,35388]) (cM [41535,44607,32319,38463,33855,39999,43071,30783,36927,0,522,35391])))] [] .non
def p50 : Cl.LC := lT (pW [] 1) [(0,(cQ 10 (cM [522,3]) (cM [522,0]))),(1,(cQ 10 (cM [59964,53820,56892,50748,46140,58428,52284,55356,49212,51,522,47676]) (cM [59967,53823,56895,50751,46143,58431,52287,55359,49215,48,522,47679])))] [] .non
def p51 : Cl.LC := lT (pW [] 1) [(0,(cQ 10 (cM [522,3]) (cM [522,0]))),(1,(cQ 10 (cM [66108,69180,63036,75324,70716,64572,67644,61500,73788,51,522,72252]) (cM [66111,69183,63039,75327,70719,64575,67647,61503,73791,48,522,72255])))] [] .non
def p52 : Cl.LC := lT (pW [] 1) [(0,(cQ 10 (cM [522,3]) (cM [522,0]))),(1,(cQ 10 (cM [90684,78396,81468,87612,83004,89148,76860,79932,86076,51,522,84540]) (cM [90687,78399,81471,87615,83007,89151,76863,79935,86079,48,522,84543])))] [] .non
def p53 : Cl.LC := lT (pW [] 1) [(0,(cQ 10 (cM [522,3]) (cM [522,0]))),(1,(cQ 10 (cM [102972,93756,106044,99900,95292,101436,92220,104508,98364,51,522,96828]) (cM [102975,93759,106047,99903,95295,101439,92223,104511,98367,48,522,96831])))] [] .non
def p54 : Cl.LC := lT pY [(0,(cM [0,24])),(1,(cM [0,24])),(2,(cM [0,24])),(3,(cM [0,24]))] [] .non
def p55 : Cl.LC := lT pY [(0,(cM [0,24])),(1,(cM [0,24])),(2,(cM [0,24])),(4,(cM [0,24]))] [] .non
def p56 : Cl.LC := lT pY [(0,(cM [0,24])),(1,(cM [0,24])),(2,(cM [0,24])),(5,(cM [0,24]))] [] .non
def p57 : Cl.LC := lT pY [(0,(cM [0,24])),(1,(cM [0,24])),(2,(cM [0,24])),(6,(cM [0,24]))] [] .non
def p58 : Cl.LC := lT pY [(0,(cM [0,24])),(1,(cM [0,24])),(2,(cM [0,24])),(7,(cM [0,24]))] [] .non
def p59 : Cl.LC := lT pY [(0,(cM [0,24])),(1,(cM [0,24])),(2,(cM [0,24])),(8,(cM [0,24]))] [] .non
def p60 : Cl.LC := lT (pW [] 1) [(2,(cQ 10 (cM [522,99,59967]) (cM [96,522,59964])))] [] .non
def p61 : Cl.LC := lT (pW [] 1) [(1,(cQ 10 (cM [522,51]) (cM [522,48]))),(2,(cQ 10 (cM [522,99,59967]) (cM [96,522,59964])))] [] .non
def p62 : Cl.LC := lT (pW [] 1) [(1,(cQ 10 (cM [51,522,63]) (cM [48,522,60])))] [] .non

end
end Go.Proofs.Ytnkeojkniohjhaa.machineSums
