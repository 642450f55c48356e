/- The plan for the law ThinKnown: configurations at the ends of loops. Definitions alone. -/
import Derived.Test.YtkmogkobedmnkaaGreatChecked
import Derived.Test.YtkmogkobedmnkaaGreatEv6
import Derived.KernelRfl
namespace Go.Proofs.YtkmogkobedmnkaaGreat.thinKnown
open Go Go.Ev
noncomputable section

def shape : List (Option IntKind) := []
def t0 : Tmpl :=
  { fr := (frLoop Tryz.prog 41 0 [(0, (.ptr 0 (.lit 0))), (1, (.int .i64 (.lit 32)))])
    callers := [(frSeq Tryz.prog 13 8 2 [(4, (.bool (.lit false))), (41, (.ptr 0 (.lit 0))), (42, (.int .i64 (.lit 0)))]),
      (frSeq Tryz.prog 16 4 1 [(0, (.ptr 0 (.lit 0))), (1, (.int .i64 (.lit 2))), (4, (.ptr 1 (.lit 0))), (5, (.int .i64 (.lit 0))), (16, (.ptr 0 (.lit 0)))]),
      (frSeq Tryz.prog 5 4 8 [(0, (.bool (.lit false))), (1, (.ptr 2 (.lit 0))), (14, (.bool (.lit true))), (16, (.ptr 0 (.lit 0)))])]
    blocks := [(0, .cells [(.ptr 3 (.lit 0)), (.int .i64 (.lit 0)), (.slack 4 1 1 1)] 91),
      (1, .cells [(.int .i64 (.lit 0)), (.int .i64 (.lit 0))] 41),
      (2, .cells [(.int .i64 (.lit 2)), (.int .i64 (.lit 2)), (.int .i64 (.lit 1)), (.ptr 5 (.lit 0)), (.ptr 6 (.lit 0)), (.int .i32 (.lit 0)), (.int .u32 (.lit 0)), (.slack 7 0 8 1)] 58),
      (3, .cells [(.func (.func 89) [] [(.ptr 8 (.lit 0)), (.ptr 9 (.lit 0)), (.ptr 10 (.lit 0))]), .nilPtr, (.int .i64 (.lit 0)), (.bool (.lit false))] 93),
      (4, .opn [(.func (.func 92) [] [(.ptr 9 (.lit 0)), (.ptr 11 (.lit 0)), (.ptr 8 (.lit 0))]), (.func (.func 87) [] [(.ptr 12 (.lit 0))])] 142 1),
      (5, .cells [(.iface 151 (.slice 13 (.lit 0) (.lit 24) (.lit 24))), (.int .i64 (.lit 8))] 116),
      (6, .cells [(.slice 14 (.lit 0) (.lit 2) (.lit 2))] 141),
      (7, .opn [(.int .i64 (.lit 1)), (.int .i64 (.lit 0)), (.int .i64 (.lit 0)), (.int .i64 (.lit 8)), (.int .i64 (.lit 1)), (.int .i64 (.lit 4)), (.int .i64 (.lit 0)), (.int .i64 (.lit 0))] 80 8),
      (8, .cells [(.ptr 2 (.lit 0)), (.int .i64 (.lit 0)), (.int .i64 (.lit 1))] 99),
      (9, .cells [(.int .u64 (.lit 16))] 61),
      (10, .cells [(.func (.func 55) [] [(.ptr 15 (.lit 0)), (.ptr 16 (.lit 0)), (.ptr 17 (.lit 0))])] 94),
      (11, .cells [(.func (.func 58) [] [(.ptr 15 (.lit 0))])] 105),
      (12, .cells [(.func (.func 57) [] [(.ptr 15 (.lit 0)), (.ptr 18 (.lit 0))])] 106),
      (13, .cells [(.int .u64 (.lit 0)), (.int .u64 (.lit 1)), (.int .u64 (.lit 9)), (.int .u64 (.lit 16)), (.int .u64 (.lit 0)), (.int .u64 (.lit 0)), (.int .u64 (.lit 0)), (.int .u64 (.lit 0)), (.int .u64 (.lit 1)), (.int .u64 (.lit 0)), (.int .u64 (.lit 0)), (.int .u64 (.lit 0)), (.int .u64 (.lit 0)), (.int .u64 (.lit 0)), (.int .u64 (.lit 1)), (.int .u64 (.lit 0)), (.int .u64 (.lit 0)), (.int .u64 (.lit 0)), (.int .u64 (.lit 0)), (.int .u64 (.lit 0)), (.int .u64 (.lit 0)), (.int .u64 (.lit 0)), (.int .u64 (.lit 0)), (.int .u64 (.lit 0))] 61),
      (14, .cells [(.chan 19), (.chan 20)] 138),
      (15, .cells [(.ptr 2 (.lit 0)), (.int .i64 (.lit 0)), (.int .i64 (.lit 1))] 99),
      (16, .cells [(.int .i64 (.lit 0))] 3),
      (17, .cells [(.int .i64 (.lit 1))] 3),
      (18, .cells [(.func (.func 55) [] [(.ptr 15 (.lit 0)), (.ptr 16 (.lit 0)), (.ptr 17 (.lit 0))])] 94),
      (19, .chan 1 []),
      (20, .chan 1 [])]
    groups := []
    next := 21 }

def u0 : Cut := { fn := 41, depth := 3, blk := 0, t := t0, ni := 0, nb := 0, nr := 0, key := [], sig := [[2, 2, 44], [2, 1, 18], [2, 8, 18]] }
def g0 : Ctx := { rng := [], asm := [] }

def t1 : Tmpl :=
  { fr := (frLoop Tryz.prog 16 0 [(0, (.ptr 0 (.lit 0))), (1, (.int .i64 (.lit 2))), (4, (.ptr 1 (.lit 0))), (5, (.int .i64 (.lit 2)))])
    callers := [(frSeq Tryz.prog 9 1 4 [(10, (.ptr 0 (.lit 0)))]),
      (frSeq Tryz.prog 7 4 1 [(0, (.bool (.lit false))), (1, (.ptr 2 (.lit 0))), (10, (.ptr 2 (.lit 0)))]),
      (frSeq Tryz.prog 5 6 1 [(1, (.ptr 3 (.lit 0))), (2, (.bool (.lit true))), (31, (.bool (.lit true)))])]
    blocks := [(0, .cells [.nilPtr, (.int .i64 (.lit 0)), (.empty false)] 91),
      (1, .cells [(.int .i64 (.lit 0)), (.int .i64 (.lit 0))] 41),
      (2, .cells [(.int .i64 (.lit 2)), (.int .i64 (.lit 1)), (.int .i64 (.lit 0)), (.ptr 4 (.lit 0)), (.ptr 5 (.lit 0)), (.int .i32 (.lit 0)), (.int .u32 (.lit 0)), (.slack 6 0 8 1)] 58),
      (3, .cells [(.int .i64 (.lit 2)), (.int .i64 (.lit 2)), (.int .i64 (.lit 1)), (.ptr 7 (.lit 0)), (.ptr 8 (.lit 0)), (.int .i32 (.lit 0)), (.int .u32 (.lit 0)), (.slack 9 0 8 1)] 58),
      (4, .cells [(.iface 151 (.slice 10 (.lit 0) (.lit 15) (.lit 15))), (.int .i64 (.lit 6))] 116),
      (5, .cells [(.slice 11 (.lit 0) (.lit 2) (.lit 2))] 141),
      (6, .opn [(.int .i64 (.lit 1)), (.int .i64 (.lit 0)), (.int .i64 (.lit 0)), (.int .i64 (.lit 0)), (.int .i64 (.lit 0)), (.int .i64 (.lit 0)), (.int .i64 (.lit 0)), (.int .i64 (.lit 0))] 80 8),
      (7, .cells [(.iface 151 (.slice 12 (.lit 0) (.lit 24) (.lit 24))), (.int .i64 (.lit 9))] 116),
      (8, .cells [(.slice 13 (.lit 0) (.lit 2) (.lit 2))] 141),
      (9, .opn [(.int .i64 (.lit 1)), (.int .i64 (.lit 0)), (.int .i64 (.lit 0)), (.int .i64 (.lit 8)), (.int .i64 (.lit 1)), (.int .i64 (.lit 4)), (.int .i64 (.lit 0)), (.int .i64 (.lit 0))] 80 8),
      (10, .cells [(.int .u64 (.lit 0)), (.int .u64 (.lit 0)), (.int .u64 (.lit 4398046511179)), (.int .u64 (.lit 0)), (.int .u64 (.lit 0)), (.int .u64 (.lit 0)), (.int .u64 (.lit 0)), (.int .u64 (.lit 1)), (.int .u64 (.lit 0)), (.int .u64 (.lit 0)), (.int .u64 (.lit 0)), (.int .u64 (.lit 0)), (.int .u64 (.lit 0)), (.int .u64 (.lit 1)), (.int .u64 (.lit 0))] 61),
      (11, .cells [(.chan 14), (.chan 15)] 138),
      (12, .cells [(.int .u64 (.lit 0)), (.int .u64 (.lit 1)), (.int .u64 (.lit 18446744073709551615)), (.int .u64 (.lit 16)), (.int .u64 (.lit 0)), (.int .u64 (.lit 0)), (.int .u64 (.lit 0)), (.int .u64 (.lit 0)), (.int .u64 (.lit 1)), (.int .u64 (.lit 0)), (.int .u64 (.lit 0)), (.int .u64 (.lit 0)), (.int .u64 (.lit 0)), (.int .u64 (.lit 0)), (.int .u64 (.lit 1)), (.int .u64 (.lit 0)), (.int .u64 (.lit 0)), (.int .u64 (.lit 0)), (.int .u64 (.lit 0)), (.int .u64 (.lit 0)), (.int .u64 (.lit 0)), (.int .u64 (.lit 0)), (.int .u64 (.lit 0)), (.int .u64 (.lit 0))] 61),
      (13, .cells [(.chan 16), (.chan 17)] 138),
      (14, .chan 1 []),
      (15, .chan 1 []),
      (16, .chan 1 []),
      (17, .chan 1 [])]
    groups := []
    next := 18 }

def u1 : Cut := { fn := 16, depth := 3, blk := 0, t := t1, ni := 0, nb := 0, nr := 0, key := [], sig := [[2, 4, 12], [2, 1, 12], [2, 1, 33]] }
def g1 : Ctx := { rng := [], asm := [] }

def t2 : Tmpl :=
  { fr := (frLoop Tryz.prog 16 0 [(0, (.ptr 0 (.lit 0))), (1, (.int .i64 (.lit 2))), (4, (.ptr 1 (.lit 0))), (5, (.int .i64 (.lit 1)))])
    callers := [(frSeq Tryz.prog 9 1 4 [(10, (.ptr 0 (.lit 0)))]),
      (frSeq Tryz.prog 7 4 10 [(0, (.bool (.lit false))), (1, (.ptr 2 (.lit 0))), (18, (.bool (.lit true))), (19, (.ptr 2 (.lit 0)))]),
      (frSeq Tryz.prog 5 6 1 [(1, (.ptr 3 (.lit 0))), (2, (.bool (.lit true))), (31, (.bool (.lit true)))])]
    blocks := [(0, .cells [.nilPtr, (.int .i64 (.lit 48)), (.empty false)] 91),
      (1, .cells [(.int .i64 (.lit 0)), (.int .i64 (.lit 0))] 41),
      (2, .cells [(.int .i64 (.lit 2)), (.int .i64 (.lit 1)), (.int .i64 (.lit 0)), (.ptr 4 (.lit 0)), (.ptr 5 (.lit 0)), (.int .i32 (.lit 0)), (.int .u32 (.lit 0)), (.slack 6 0 8 2)] 58),
      (3, .cells [(.int .i64 (.lit 2)), (.int .i64 (.lit 2)), (.int .i64 (.lit 1)), (.ptr 7 (.lit 0)), (.ptr 8 (.lit 0)), (.int .i32 (.lit 0)), (.int .u32 (.lit 0)), (.slack 9 0 8 1)] 58),
      (4, .cells [(.iface 151 (.slice 10 (.lit 0) (.lit 15) (.lit 15))), (.int .i64 (.lit 9))] 116),
      (5, .cells [(.slice 11 (.lit 0) (.lit 2) (.lit 2))] 141),
      (6, .opn [(.int .i64 (.lit 1)), (.int .i64 (.lit 0)), (.int .i64 (.lit 0)), (.int .i64 (.lit 0)), (.int .i64 (.lit 0)), (.int .i64 (.lit 0)), (.int .i64 (.lit 0)), (.int .i64 (.lit 0)), (.int .i64 (.lit 1)), (.int .i64 (.lit 0)), (.int .i64 (.lit 0)), (.int .i64 (.lit 0)), (.int .i64 (.lit 0)), (.int .i64 (.lit 0)), (.int .i64 (.lit 0)), (.int .i64 (.lit 0))] 80 8),
      (7, .cells [(.iface 151 (.slice 12 (.lit 0) (.lit 24) (.lit 24))), (.int .i64 (.lit 9))] 116),
      (8, .cells [(.slice 13 (.lit 0) (.lit 2) (.lit 2))] 141),
      (9, .opn [(.int .i64 (.lit 1)), (.int .i64 (.lit 0)), (.int .i64 (.lit 0)), (.int .i64 (.lit 8)), (.int .i64 (.lit 1)), (.int .i64 (.lit 4)), (.int .i64 (.lit 0)), (.int .i64 (.lit 0))] 80 8),
      (10, .cells [(.int .u64 (.lit 0)), (.int .u64 (.lit 0)), (.int .u64 (.lit 8796093022283)), (.int .u64 (.lit 0)), (.int .u64 (.lit 0)), (.int .u64 (.lit 0)), (.int .u64 (.lit 0)), (.int .u64 (.lit 1)), (.int .u64 (.lit 0)), (.int .u64 (.lit 0)), (.int .u64 (.lit 0)), (.int .u64 (.lit 0)), (.int .u64 (.lit 0)), (.int .u64 (.lit 1)), (.int .u64 (.lit 0))] 61),
      (11, .cells [(.chan 14), (.chan 15)] 138),
      (12, .cells [(.int .u64 (.lit 0)), (.int .u64 (.lit 1)), (.int .u64 (.lit 18446744073709551615)), (.int .u64 (.lit 16)), (.int .u64 (.lit 0)), (.int .u64 (.lit 0)), (.int .u64 (.lit 0)), (.int .u64 (.lit 0)), (.int .u64 (.lit 1)), (.int .u64 (.lit 0)), (.int .u64 (.lit 0)), (.int .u64 (.lit 0)), (.int .u64 (.lit 0)), (.int .u64 (.lit 0)), (.int .u64 (.lit 1)), (.int .u64 (.lit 0)), (.int .u64 (.lit 0)), (.int .u64 (.lit 0)), (.int .u64 (.lit 0)), (.int .u64 (.lit 0)), (.int .u64 (.lit 0)), (.int .u64 (.lit 0)), (.int .u64 (.lit 0)), (.int .u64 (.lit 0))] 61),
      (13, .cells [(.chan 16), (.chan 17)] 138),
      (14, .chan 1 []),
      (15, .chan 1 []),
      (16, .chan 1 []),
      (17, .chan 1 [])]
    groups := []
    next := 18 }

def u2 : Cut := { fn := 16, depth := 3, blk := 0, t := t2, ni := 0, nb := 0, nr := 0, key := [], sig := [[2, 4, 12], [2, 10, 21], [2, 1, 33]] }
def g2 : Ctx := { rng := [], asm := [] }

def t3 : Tmpl :=
  { fr := (frLoop Tryz.prog 41 0 [(0, (.ptr 0 (.lit 0))), (1, (.int .i64 (.lit 1)))])
    callers := [(frSeq Tryz.prog 13 8 2 [(4, (.bool (.lit false))), (41, (.ptr 0 (.lit 0))), (42, (.int .i64 (.lit 0)))]),
      (frSeq Tryz.prog 16 4 1 [(0, (.ptr 0 (.lit 0))), (1, (.int .i64 (.lit 1))), (4, (.ptr 1 (.lit 0))), (5, (.int .i64 (.lit 0))), (16, (.ptr 0 (.lit 0)))]),
      (frSeq Tryz.prog 7 5 2 [(0, (.bool (.lit false))), (1, (.ptr 2 (.lit 0))), (2, (.bool (.lit true))), (33, (.ptr 0 (.lit 0)))]),
      (frSeq Tryz.prog 5 6 1 [(1, (.ptr 3 (.lit 0))), (2, (.bool (.lit true))), (31, (.bool (.lit true)))])]
    blocks := [(0, .cells [(.ptr 4 (.lit 0)), (.int .i64 (.lit 0)), (.empty false)] 91),
      (1, .cells [(.int .i64 (.lit 0)), (.int .i64 (.lit 0))] 41),
      (2, .cells [(.int .i64 (.lit 2)), (.int .i64 (.lit 1)), (.int .i64 (.lit 0)), (.ptr 5 (.lit 0)), (.ptr 6 (.lit 0)), (.int .i32 (.lit 0)), (.int .u32 (.lit 0)), (.slack 7 0 8 4)] 58),
      (3, .cells [(.int .i64 (.lit 2)), (.int .i64 (.lit 2)), (.int .i64 (.lit 1)), (.ptr 8 (.lit 0)), (.ptr 9 (.lit 0)), (.int .i32 (.lit 0)), (.int .u32 (.lit 0)), (.slack 10 0 8 1)] 58),
      (4, .cells [(.func (.func 89) [] [(.ptr 11 (.lit 0)), (.ptr 12 (.lit 0)), (.ptr 13 (.lit 0))]), .nilPtr, (.int .i64 (.lit 0)), (.bool (.lit false))] 93),
      (5, .cells [(.iface 151 (.slice 14 (.lit 0) (.lit 15) (.lit 15))), (.int .i64 (.lit 11))] 116),
      (6, .cells [(.slice 15 (.lit 0) (.lit 2) (.lit 2))] 141),
      (7, .opn [(.int .i64 (.lit 1)), (.int .i64 (.lit 0)), (.int .i64 (.lit 0)), (.int .i64 (.lit 0)), (.int .i64 (.lit 0)), (.int .i64 (.lit 0)), (.int .i64 (.lit 0)), (.int .i64 (.lit 0)), (.int .i64 (.lit 1)), (.int .i64 (.lit 0)), (.int .i64 (.lit 0)), (.int .i64 (.lit 0)), (.int .i64 (.lit 0)), (.int .i64 (.lit 0)), (.int .i64 (.lit 0)), (.int .i64 (.lit 0)), (.int .i64 (.lit 1)), (.int .i64 (.lit 1)), (.int .i64 (.lit 0)), (.int .i64 (.lit 8)), (.int .i64 (.lit 0)), (.int .i64 (.lit 4)), (.int .i64 (.lit 0)), (.int .i64 (.lit 0)), (.int .i64 (.lit 1)), (.int .i64 (.lit 0)), (.int .i64 (.lit 0)), (.int .i64 (.lit 9)), (.int .i64 (.lit 0)), (.int .i64 (.lit 1)), (.int .i64 (.lit 0)), (.int .i64 (.lit 0))] 80 8),
      (8, .cells [(.iface 151 (.slice 16 (.lit 0) (.lit 24) (.lit 24))), (.int .i64 (.lit 9))] 116),
      (9, .cells [(.slice 17 (.lit 0) (.lit 2) (.lit 2))] 141),
      (10, .opn [(.int .i64 (.lit 1)), (.int .i64 (.lit 0)), (.int .i64 (.lit 0)), (.int .i64 (.lit 8)), (.int .i64 (.lit 1)), (.int .i64 (.lit 4)), (.int .i64 (.lit 0)), (.int .i64 (.lit 0))] 80 8),
      (11, .cells [(.ptr 2 (.lit 0)), (.int .i64 (.lit 0)), (.int .i64 (.lit 0))] 99),
      (12, .cells [(.int .u64 (.lit 8796093022283))] 61),
      (13, .cells [(.func (.func 70) [] [(.ptr 18 (.lit 0)), (.ptr 19 (.lit 0)), (.ptr 20 (.lit 0)), (.ptr 21 (.lit 0))])] 94),
      (14, .cells [(.int .u64 (.lit 0)), (.int .u64 (.lit 0)), (.int .u64 (.lit 8796093022283)), (.int .u64 (.lit 0)), (.int .u64 (.lit 0)), (.int .u64 (.lit 0)), (.int .u64 (.lit 0)), (.int .u64 (.lit 1)), (.int .u64 (.lit 0)), (.int .u64 (.lit 0)), (.int .u64 (.lit 0)), (.int .u64 (.lit 0)), (.int .u64 (.lit 0)), (.int .u64 (.lit 1)), (.int .u64 (.lit 0))] 61),
      (15, .cells [(.chan 22), (.chan 23)] 138),
      (16, .cells [(.int .u64 (.lit 0)), (.int .u64 (.lit 1)), (.int .u64 (.lit 18446744073709551615)), (.int .u64 (.lit 16)), (.int .u64 (.lit 0)), (.int .u64 (.lit 0)), (.int .u64 (.lit 0)), (.int .u64 (.lit 0)), (.int .u64 (.lit 1)), (.int .u64 (.lit 0)), (.int .u64 (.lit 0)), (.int .u64 (.lit 0)), (.int .u64 (.lit 0)), (.int .u64 (.lit 0)), (.int .u64 (.lit 1)), (.int .u64 (.lit 0)), (.int .u64 (.lit 0)), (.int .u64 (.lit 0)), (.int .u64 (.lit 0)), (.int .u64 (.lit 0)), (.int .u64 (.lit 0)), (.int .u64 (.lit 0)), (.int .u64 (.lit 0)), (.int .u64 (.lit 0))] 61),
      (17, .cells [(.chan 24), (.chan 25)] 138),
      (18, .cells [(.ptr 2 (.lit 0)), (.int .i64 (.lit 0)), (.int .i64 (.lit 0))] 99),
      (19, .cells [(.int .i64 (.lit 0))] 3),
      (20, .cells [(.int .i64 (.lit 0))] 3),
      (21, .cells [(.func (.func 69) [] [])] 60),
      (22, .chan 1 []),
      (23, .chan 1 []),
      (24, .chan 1 []),
      (25, .chan 1 [])]
    groups := []
    next := 26 }

def u3 : Cut := { fn := 41, depth := 4, blk := 0, t := t3, ni := 0, nb := 0, nr := 0, key := [], sig := [[2, 2, 44], [2, 1, 18], [2, 2, 35], [2, 1, 33]] }
def g3 : Ctx := { rng := [], asm := [] }

def t4 : Tmpl :=
  { fr := (frLoop Tryz.prog 16 0 [(0, (.ptr 0 (.lit 0))), (1, (.int .i64 (.lit 2))), (4, (.ptr 1 (.lit 0))), (5, (.int .i64 (.lit 1)))])
    callers := [(frSeq Tryz.prog 9 1 4 [(10, (.ptr 0 (.lit 0)))]),
      (frSeq Tryz.prog 7 5 14 [(0, (.bool (.lit false))), (1, (.ptr 2 (.lit 0))), (2, (.bool (.lit true))), (44, (.bool (.lit true))), (45, (.ptr 2 (.lit 0)))]),
      (frSeq Tryz.prog 5 6 1 [(1, (.ptr 3 (.lit 0))), (2, (.bool (.lit true))), (31, (.bool (.lit true)))])]
    blocks := [(0, .cells [(.ptr 4 (.lit 0)), (.int .i64 (.lit 0)), (.slack 5 0 1 2)] 91),
      (1, .cells [(.int .i64 (.lit 0)), (.int .i64 (.lit 0))] 41),
      (2, .cells [(.int .i64 (.lit 2)), (.int .i64 (.lit 1)), (.int .i64 (.lit 0)), (.ptr 6 (.lit 0)), (.ptr 7 (.lit 0)), (.int .i32 (.lit 0)), (.int .u32 (.lit 0)), (.slack 8 0 8 5)] 58),
      (3, .cells [(.int .i64 (.lit 2)), (.int .i64 (.lit 2)), (.int .i64 (.lit 1)), (.ptr 9 (.lit 0)), (.ptr 10 (.lit 0)), (.int .i32 (.lit 0)), (.int .u32 (.lit 0)), (.slack 11 0 8 1)] 58),
      (4, .cells [(.func (.func 93) [] [(.ptr 12 (.lit 0)), (.ptr 13 (.lit 0)), (.ptr 14 (.lit 0)), (.ptr 15 (.lit 0))]), .nilPtr, (.int .i64 (.lit 0)), (.bool (.lit false))] 93),
      (5, .opn [(.func (.func 95) [] []), (.func (.func 87) [] [(.ptr 16 (.lit 0))])] 142 1),
      (6, .cells [(.iface 151 (.slice 17 (.lit 0) (.lit 15) (.lit 15))), (.int .i64 (.lit 13))] 116),
      (7, .cells [(.slice 18 (.lit 0) (.lit 2) (.lit 2))] 141),
      (8, .opn [(.int .i64 (.lit 1)), (.int .i64 (.lit 0)), (.int .i64 (.lit 0)), (.int .i64 (.lit 0)), (.int .i64 (.lit 0)), (.int .i64 (.lit 0)), (.int .i64 (.lit 0)), (.int .i64 (.lit 0)), (.int .i64 (.lit 1)), (.int .i64 (.lit 0)), (.int .i64 (.lit 0)), (.int .i64 (.lit 0)), (.int .i64 (.lit 0)), (.int .i64 (.lit 0)), (.int .i64 (.lit 0)), (.int .i64 (.lit 0)), (.int .i64 (.lit 1)), (.int .i64 (.lit 1)), (.int .i64 (.lit 0)), (.int .i64 (.lit 8)), (.int .i64 (.lit 0)), (.int .i64 (.lit 4)), (.int .i64 (.lit 0)), (.int .i64 (.lit 0)), (.int .i64 (.lit 1)), (.int .i64 (.lit 0)), (.int .i64 (.lit 0)), (.int .i64 (.lit 9)), (.int .i64 (.lit 0)), (.int .i64 (.lit 1)), (.int .i64 (.lit 0)), (.int .i64 (.lit 0)), (.int .i64 (.lit 1)), (.int .i64 (.lit 1)), (.int .i64 (.lit 0)), (.int .i64 (.lit 9)), (.int .i64 (.lit 0)), (.int .i64 (.lit 0)), (.int .i64 (.lit 0)), (.int .i64 (.lit 0))] 80 8),
      (9, .cells [(.iface 151 (.slice 19 (.lit 0) (.lit 24) (.lit 24))), (.int .i64 (.lit 9))] 116),
      (10, .cells [(.slice 20 (.lit 0) (.lit 2) (.lit 2))] 141),
      (11, .opn [(.int .i64 (.lit 1)), (.int .i64 (.lit 0)), (.int .i64 (.lit 0)), (.int .i64 (.lit 8)), (.int .i64 (.lit 1)), (.int .i64 (.lit 4)), (.int .i64 (.lit 0)), (.int .i64 (.lit 0))] 80 8),
      (12, .cells [(.ptr 2 (.lit 0)), (.int .i64 (.lit 0)), (.int .i64 (.lit 0))] 99),
      (13, .cells [(.int .u64 (.lit 8796093022283))] 61),
      (14, .cells [(.int .u64 (.lit 4398046511179))] 61),
      (15, .cells [(.int .i64 (.lit 1))] 3),
      (16, .cells [(.func (.func 57) [] [(.ptr 21 (.lit 0)), (.ptr 22 (.lit 0))])] 106),
      (17, .cells [(.int .u64 (.lit 0)), (.int .u64 (.lit 0)), (.int .u64 (.lit 8796093022283)), (.int .u64 (.lit 0)), (.int .u64 (.lit 0)), (.int .u64 (.lit 0)), (.int .u64 (.lit 0)), (.int .u64 (.lit 1)), (.int .u64 (.lit 0)), (.int .u64 (.lit 0)), (.int .u64 (.lit 0)), (.int .u64 (.lit 0)), (.int .u64 (.lit 0)), (.int .u64 (.lit 1)), (.int .u64 (.lit 0))] 61),
      (18, .cells [(.chan 23), (.chan 24)] 138),
      (19, .cells [(.int .u64 (.lit 0)), (.int .u64 (.lit 1)), (.int .u64 (.lit 18446744073709551615)), (.int .u64 (.lit 16)), (.int .u64 (.lit 0)), (.int .u64 (.lit 0)), (.int .u64 (.lit 0)), (.int .u64 (.lit 0)), (.int .u64 (.lit 1)), (.int .u64 (.lit 0)), (.int .u64 (.lit 0)), (.int .u64 (.lit 0)), (.int .u64 (.lit 0)), (.int .u64 (.lit 0)), (.int .u64 (.lit 1)), (.int .u64 (.lit 0)), (.int .u64 (.lit 0)), (.int .u64 (.lit 0)), (.int .u64 (.lit 0)), (.int .u64 (.lit 0)), (.int .u64 (.lit 0)), (.int .u64 (.lit 0)), (.int .u64 (.lit 0)), (.int .u64 (.lit 0))] 61),
      (20, .cells [(.chan 25), (.chan 26)] 138),
      (21, .cells [(.ptr 2 (.lit 0)), (.int .i64 (.lit 0)), (.int .i64 (.lit 0))] 99),
      (22, .cells [(.func (.func 55) [] [(.ptr 21 (.lit 0)), (.ptr 27 (.lit 0)), (.ptr 28 (.lit 0))])] 94),
      (23, .chan 1 []),
      (24, .chan 1 []),
      (25, .chan 1 []),
      (26, .chan 1 []),
      (27, .cells [(.int .i64 (.lit 0))] 3),
      (28, .cells [(.int .i64 (.lit 0))] 3)]
    groups := []
    next := 29 }

def u4 : Cut := { fn := 16, depth := 3, blk := 0, t := t4, ni := 0, nb := 0, nr := 0, key := [], sig := [[2, 4, 12], [2, 14, 47], [2, 1, 33]] }
def g4 : Ctx := { rng := [], asm := [] }

def t5 : Tmpl :=
  { fr := (frLoop Tryz.prog 16 0 [(0, (.ptr 0 (.lit 0))), (1, (.int .i64 (.lit 2))), (4, (.ptr 1 (.lit 0))), (5, (.int .i64 (.lit 1)))])
    callers := [(frSeq Tryz.prog 9 1 4 [(10, (.ptr 0 (.lit 0)))]),
      (frSeq Tryz.prog 7 5 24 [(0, (.bool (.lit false))), (1, (.ptr 2 (.lit 0))), (2, (.bool (.lit true))), (54, (.bool (.lit true))), (55, (.ptr 2 (.lit 0)))]),
      (frSeq Tryz.prog 5 6 1 [(1, (.ptr 3 (.lit 0))), (2, (.bool (.lit true))), (31, (.bool (.lit true)))])]
    blocks := [(0, .cells [.nilPtr, (.int .i64 (.lit 32)), (.empty false)] 91),
      (1, .cells [(.int .i64 (.lit 0)), (.int .i64 (.lit 0))] 41),
      (2, .cells [(.int .i64 (.lit 2)), (.int .i64 (.lit 1)), (.int .i64 (.lit 0)), (.ptr 4 (.lit 0)), (.ptr 5 (.lit 0)), (.int .i32 (.lit 0)), (.int .u32 (.lit 0)), (.slack 6 0 8 8)] 58),
      (3, .cells [(.int .i64 (.lit 2)), (.int .i64 (.lit 2)), (.int .i64 (.lit 1)), (.ptr 7 (.lit 0)), (.ptr 8 (.lit 0)), (.int .i32 (.lit 0)), (.int .u32 (.lit 0)), (.slack 9 0 8 1)] 58),
      (4, .cells [(.iface 151 (.slice 10 (.lit 0) (.lit 15) (.lit 15))), (.int .i64 (.lit 17))] 116),
      (5, .cells [(.slice 11 (.lit 0) (.lit 2) (.lit 2))] 141),
      (6, .opn [(.int .i64 (.lit 1)), (.int .i64 (.lit 0)), (.int .i64 (.lit 0)), (.int .i64 (.lit 0)), (.int .i64 (.lit 0)), (.int .i64 (.lit 0)), (.int .i64 (.lit 0)), (.int .i64 (.lit 0)), (.int .i64 (.lit 1)), (.int .i64 (.lit 0)), (.int .i64 (.lit 0)), (.int .i64 (.lit 0)), (.int .i64 (.lit 0)), (.int .i64 (.lit 0)), (.int .i64 (.lit 0)), (.int .i64 (.lit 0)), (.int .i64 (.lit 1)), (.int .i64 (.lit 1)), (.int .i64 (.lit 0)), (.int .i64 (.lit 8)), (.int .i64 (.lit 0)), (.int .i64 (.lit 4)), (.int .i64 (.lit 0)), (.int .i64 (.lit 0)), (.int .i64 (.lit 1)), (.int .i64 (.lit 0)), (.int .i64 (.lit 0)), (.int .i64 (.lit 9)), (.int .i64 (.lit 0)), (.int .i64 (.lit 1)), (.int .i64 (.lit 0)), (.int .i64 (.lit 0)), (.int .i64 (.lit 1)), (.int .i64 (.lit 1)), (.int .i64 (.lit 0)), (.int .i64 (.lit 9)), (.int .i64 (.lit 0)), (.int .i64 (.lit 0)), (.int .i64 (.lit 0)), (.int .i64 (.lit 0)), (.int .i64 (.lit 1)), (.int .i64 (.lit 0)), (.int .i64 (.lit 0)), (.int .i64 (.lit 1)), (.int .i64 (.lit 0)), (.int .i64 (.lit 0)), (.int .i64 (.lit 0)), (.int .i64 (.lit 0)), (.int .i64 (.lit 1)), (.int .i64 (.lit 0)), (.int .i64 (.lit 0)), (.int .i64 (.lit 1)), (.int .i64 (.lit 0)), (.int .i64 (.lit 0)), (.int .i64 (.lit 0)), (.int .i64 (.lit 0)), (.int .i64 (.lit 1)), (.int .i64 (.lit 0)), (.int .i64 (.lit 0)), (.int .i64 (.lit 8)), (.int .i64 (.lit 0)), (.int .i64 (.lit 4)), (.int .i64 (.lit 0)), (.int .i64 (.lit 0))] 80 8),
      (7, .cells [(.iface 151 (.slice 12 (.lit 0) (.lit 24) (.lit 24))), (.int .i64 (.lit 9))] 116),
      (8, .cells [(.slice 13 (.lit 0) (.lit 2) (.lit 2))] 141),
      (9, .opn [(.int .i64 (.lit 1)), (.int .i64 (.lit 0)), (.int .i64 (.lit 0)), (.int .i64 (.lit 8)), (.int .i64 (.lit 1)), (.int .i64 (.lit 4)), (.int .i64 (.lit 0)), (.int .i64 (.lit 0))] 80 8),
      (10, .cells [(.int .u64 (.lit 0)), (.int .u64 (.lit 0)), (.int .u64 (.lit 73)), (.int .u64 (.lit 0)), (.int .u64 (.lit 0)), (.int .u64 (.lit 0)), (.int .u64 (.lit 0)), (.int .u64 (.lit 1)), (.int .u64 (.lit 0)), (.int .u64 (.lit 0)), (.int .u64 (.lit 0)), (.int .u64 (.lit 0)), (.int .u64 (.lit 0)), (.int .u64 (.lit 1)), (.int .u64 (.lit 0))] 61),
      (11, .cells [(.chan 14), (.chan 15)] 138),
      (12, .cells [(.int .u64 (.lit 0)), (.int .u64 (.lit 1)), (.int .u64 (.lit 18446744073709551615)), (.int .u64 (.lit 16)), (.int .u64 (.lit 0)), (.int .u64 (.lit 0)), (.int .u64 (.lit 0)), (.int .u64 (.lit 0)), (.int .u64 (.lit 1)), (.int .u64 (.lit 0)), (.int .u64 (.lit 0)), (.int .u64 (.lit 0)), (.int .u64 (.lit 0)), (.int .u64 (.lit 0)), (.int .u64 (.lit 1)), (.int .u64 (.lit 0)), (.int .u64 (.lit 0)), (.int .u64 (.lit 0)), (.int .u64 (.lit 0)), (.int .u64 (.lit 0)), (.int .u64 (.lit 0)), (.int .u64 (.lit 0)), (.int .u64 (.lit 0)), (.int .u64 (.lit 0))] 61),
      (13, .cells [(.chan 16), (.chan 17)] 138),
      (14, .chan 1 []),
      (15, .chan 1 []),
      (16, .chan 1 []),
      (17, .chan 1 [])]
    groups := []
    next := 18 }

def u5 : Cut := { fn := 16, depth := 3, blk := 0, t := t5, ni := 0, nb := 0, nr := 0, key := [], sig := [[2, 4, 12], [2, 24, 57], [2, 1, 33]] }
def g5 : Ctx := { rng := [], asm := [] }

def t6 : Tmpl :=
  { fr := (frLoop Tryz.prog 41 0 [(0, (.ptr 0 (.lit 0))), (1, (.int .i64 (.lit 0)))])
    callers := [(frSeq Tryz.prog 13 8 2 [(4, (.bool (.lit false))), (41, (.ptr 0 (.lit 0))), (42, (.int .i64 (.lit 1)))]),
      (frSeq Tryz.prog 7 7 8 [(0, (.bool (.lit false))), (1, (.ptr 1 (.lit 0))), (2, (.bool (.lit true))), (3, (.bool (.lit true))), (4, (.ptr 0 (.lit 0))), (5, (.ptr 2 (.lit 0))), (73, (.bool (.lit true))), (74, (.ptr 0 (.lit 0)))]),
      (frSeq Tryz.prog 5 6 1 [(1, (.ptr 3 (.lit 0))), (2, (.bool (.lit true))), (31, (.bool (.lit true)))])]
    blocks := [(0, .cells [(.ptr 4 (.lit 0)), (.int .i64 (.lit 0)), (.slack 5 1 1 1)] 91),
      (1, .cells [(.int .i64 (.lit 2)), (.int .i64 (.lit 1)), (.int .i64 (.lit 0)), (.ptr 6 (.lit 0)), (.ptr 7 (.lit 0)), (.int .i32 (.lit 0)), (.int .u32 (.lit 0)), (.slack 8 0 8 9)] 58),
      (2, .cells [(.ptr 9 (.lit 0)), (.int .i64 (.lit 0)), (.slack 10 0 1 2)] 91),
      (3, .cells [(.int .i64 (.lit 2)), (.int .i64 (.lit 2)), (.int .i64 (.lit 1)), (.ptr 11 (.lit 0)), (.ptr 12 (.lit 0)), (.int .i32 (.lit 0)), (.int .u32 (.lit 0)), (.slack 13 0 8 1)] 58),
      (4, .cells [(.func (.func 93) [] [(.ptr 14 (.lit 0)), (.ptr 15 (.lit 0)), (.ptr 16 (.lit 0)), (.ptr 17 (.lit 0))]), .nilPtr, (.int .i64 (.lit 0)), (.bool (.lit false))] 93),
      (5, .opn [(.func (.func 95) [] []), (.func (.func 87) [] [(.ptr 18 (.lit 0))])] 142 1),
      (6, .cells [(.iface 151 (.slice 19 (.lit 0) (.lit 15) (.lit 15))), (.int .i64 (.lit 20))] 116),
      (7, .cells [(.slice 20 (.lit 0) (.lit 2) (.lit 2))] 141),
      (8, .opn [(.int .i64 (.lit 1)), (.int .i64 (.lit 0)), (.int .i64 (.lit 0)), (.int .i64 (.lit 0)), (.int .i64 (.lit 0)), (.int .i64 (.lit 0)), (.int .i64 (.lit 0)), (.int .i64 (.lit 0)), (.int .i64 (.lit 1)), (.int .i64 (.lit 0)), (.int .i64 (.lit 0)), (.int .i64 (.lit 0)), (.int .i64 (.lit 0)), (.int .i64 (.lit 0)), (.int .i64 (.lit 0)), (.int .i64 (.lit 0)), (.int .i64 (.lit 1)), (.int .i64 (.lit 1)), (.int .i64 (.lit 0)), (.int .i64 (.lit 8)), (.int .i64 (.lit 0)), (.int .i64 (.lit 4)), (.int .i64 (.lit 0)), (.int .i64 (.lit 0)), (.int .i64 (.lit 1)), (.int .i64 (.lit 0)), (.int .i64 (.lit 0)), (.int .i64 (.lit 9)), (.int .i64 (.lit 0)), (.int .i64 (.lit 1)), (.int .i64 (.lit 0)), (.int .i64 (.lit 0)), (.int .i64 (.lit 1)), (.int .i64 (.lit 1)), (.int .i64 (.lit 0)), (.int .i64 (.lit 9)), (.int .i64 (.lit 0)), (.int .i64 (.lit 0)), (.int .i64 (.lit 0)), (.int .i64 (.lit 0)), (.int .i64 (.lit 1)), (.int .i64 (.lit 0)), (.int .i64 (.lit 0)), (.int .i64 (.lit 1)), (.int .i64 (.lit 0)), (.int .i64 (.lit 0)), (.int .i64 (.lit 0)), (.int .i64 (.lit 0)), (.int .i64 (.lit 1)), (.int .i64 (.lit 0)), (.int .i64 (.lit 0)), (.int .i64 (.lit 1)), (.int .i64 (.lit 0)), (.int .i64 (.lit 0)), (.int .i64 (.lit 0)), (.int .i64 (.lit 0)), (.int .i64 (.lit 1)), (.int .i64 (.lit 0)), (.int .i64 (.lit 0)), (.int .i64 (.lit 8)), (.int .i64 (.lit 0)), (.int .i64 (.lit 4)), (.int .i64 (.lit 0)), (.int .i64 (.lit 0)), (.int .i64 (.lit 1)), (.int .i64 (.lit 0)), (.int .i64 (.lit 0)), (.int .i64 (.lit 0)), (.int .i64 (.lit 0)), (.int .i64 (.lit 0)), (.int .i64 (.lit 0)), (.int .i64 (.lit 0))] 80 8),
      (9, .cells [(.func (.func 93) [] [(.ptr 21 (.lit 0)), (.ptr 22 (.lit 0)), (.ptr 23 (.lit 0)), (.ptr 24 (.lit 0))]), .nilPtr, (.int .i64 (.lit 0)), (.bool (.lit false))] 93),
      (10, .opn [(.func (.func 95) [] []), (.func (.func 87) [] [(.ptr 25 (.lit 0))])] 142 1),
      (11, .cells [(.iface 151 (.slice 26 (.lit 0) (.lit 24) (.lit 24))), (.int .i64 (.lit 9))] 116),
      (12, .cells [(.slice 27 (.lit 0) (.lit 2) (.lit 2))] 141),
      (13, .opn [(.int .i64 (.lit 1)), (.int .i64 (.lit 0)), (.int .i64 (.lit 0)), (.int .i64 (.lit 8)), (.int .i64 (.lit 1)), (.int .i64 (.lit 4)), (.int .i64 (.lit 0)), (.int .i64 (.lit 0))] 80 8),
      (14, .cells [(.ptr 1 (.lit 0)), (.int .i64 (.lit 0)), (.int .i64 (.lit 0))] 99),
      (15, .cells [(.int .u64 (.lit 73))] 61),
      (16, .cells [(.int .u64 (.lit 4398046511179))] 61),
      (17, .cells [(.int .i64 (.lit 0))] 3),
      (18, .cells [(.func (.func 48) [] [(.ptr 28 (.lit 0))])] 106),
      (19, .cells [(.int .u64 (.lit 0)), (.int .u64 (.lit 0)), (.int .u64 (.lit 4398046511179)), (.int .u64 (.lit 0)), (.int .u64 (.lit 0)), (.int .u64 (.lit 0)), (.int .u64 (.lit 0)), (.int .u64 (.lit 1)), (.int .u64 (.lit 0)), (.int .u64 (.lit 0)), (.int .u64 (.lit 0)), (.int .u64 (.lit 0)), (.int .u64 (.lit 0)), (.int .u64 (.lit 1)), (.int .u64 (.lit 0))] 61),
      (20, .cells [(.chan 29), (.chan 30)] 138),
      (21, .cells [(.ptr 1 (.lit 0)), (.int .i64 (.lit 1)), (.int .i64 (.lit 0))] 99),
      (22, .cells [(.int .u64 (.lit 73))] 61),
      (23, .cells [(.int .u64 (.lit 4398180728907))] 61),
      (24, .cells [(.int .i64 (.lit 0))] 3),
      (25, .cells [(.func (.func 48) [] [(.ptr 31 (.lit 0))])] 106),
      (26, .cells [(.int .u64 (.lit 0)), (.int .u64 (.lit 1)), (.int .u64 (.lit 18446744073709551615)), (.int .u64 (.lit 16)), (.int .u64 (.lit 0)), (.int .u64 (.lit 0)), (.int .u64 (.lit 0)), (.int .u64 (.lit 0)), (.int .u64 (.lit 1)), (.int .u64 (.lit 0)), (.int .u64 (.lit 0)), (.int .u64 (.lit 0)), (.int .u64 (.lit 0)), (.int .u64 (.lit 0)), (.int .u64 (.lit 1)), (.int .u64 (.lit 0)), (.int .u64 (.lit 0)), (.int .u64 (.lit 0)), (.int .u64 (.lit 0)), (.int .u64 (.lit 0)), (.int .u64 (.lit 0)), (.int .u64 (.lit 0)), (.int .u64 (.lit 0)), (.int .u64 (.lit 0))] 61),
      (27, .cells [(.chan 32), (.chan 33)] 138),
      (28, .cells [(.ptr 1 (.lit 0)), (.int .i64 (.lit 0)), (.int .i64 (.lit 0))] 99),
      (29, .chan 1 []),
      (30, .chan 1 []),
      (31, .cells [(.ptr 1 (.lit 0)), (.int .i64 (.lit 1)), (.int .i64 (.lit 0))] 99),
      (32, .chan 1 []),
      (33, .chan 1 [])]
    groups := []
    next := 34 }

def u6 : Cut := { fn := 41, depth := 3, blk := 0, t := t6, ni := 0, nb := 0, nr := 0, key := [], sig := [[2, 2, 44], [2, 8, 76], [2, 1, 33]] }
def g6 : Ctx := { rng := [], asm := [] }

def t7 : Tmpl :=
  { fr := (frLoop Tryz.prog 41 0 [(0, (.ptr 0 (.lit 0))), (1, (.int .i64 (.lit 48)))])
    callers := [(frSeq Tryz.prog 13 8 2 [(4, (.bool (.lit false))), (41, (.ptr 0 (.lit 0))), (42, (.int .i64 (.lit 0)))]),
      (frSeq Tryz.prog 16 4 1 [(0, (.ptr 0 (.lit 0))), (1, (.int .i64 (.lit 2))), (4, (.ptr 1 (.lit 0))), (5, (.int .i64 (.lit 0))), (16, (.ptr 0 (.lit 0)))]),
      (frSeq Tryz.prog 9 1 4 [(10, (.ptr 0 (.lit 0)))]),
      (frSeq Tryz.prog 5 6 8 [(1, (.ptr 2 (.lit 0))), (37, (.bool (.lit true))), (38, (.ptr 2 (.lit 0)))])]
    blocks := [(0, .cells [(.ptr 3 (.lit 0)), (.int .i64 (.lit 0)), (.slack 4 1 1 1)] 91),
      (1, .cells [(.int .i64 (.lit 0)), (.int .i64 (.lit 0))] 41),
      (2, .cells [(.int .i64 (.lit 2)), (.int .i64 (.lit 2)), (.int .i64 (.lit 1)), (.ptr 5 (.lit 0)), (.ptr 6 (.lit 0)), (.int .i32 (.lit 0)), (.int .u32 (.lit 0)), (.slack 7 0 8 1)] 58),
      (3, .cells [(.func (.func 89) [] [(.ptr 8 (.lit 0)), (.ptr 9 (.lit 0)), (.ptr 10 (.lit 0))]), .nilPtr, (.int .i64 (.lit 0)), (.bool (.lit false))] 93),
      (4, .opn [(.func (.func 92) [] [(.ptr 9 (.lit 0)), (.ptr 11 (.lit 0)), (.ptr 8 (.lit 0))]), (.func (.func 87) [] [(.ptr 12 (.lit 0))])] 142 1),
      (5, .cells [(.iface 151 (.slice 13 (.lit 0) (.lit 24) (.lit 24))), (.int .i64 (.lit 10))] 116),
      (6, .cells [(.slice 14 (.lit 0) (.lit 2) (.lit 2))] 141),
      (7, .opn [(.int .i64 (.lit 1)), (.int .i64 (.lit 0)), (.int .i64 (.lit 0)), (.int .i64 (.lit 8)), (.int .i64 (.lit 1)), (.int .i64 (.lit 4)), (.int .i64 (.lit 0)), (.int .i64 (.lit 0))] 80 8),
      (8, .cells [(.ptr 2 (.lit 0)), (.int .i64 (.lit 0)), (.int .i64 (.lit 0))] 99),
      (9, .cells [(.int .u64 (.lit 18446744073709551615))] 61),
      (10, .cells [(.func (.func 50) [] [])] 94),
      (11, .cells [(.func (.func 51) [] [(.ptr 15 (.lit 0))])] 105),
      (12, .cells [(.func (.func 48) [] [(.ptr 15 (.lit 0))])] 106),
      (13, .cells [(.int .u64 (.lit 0)), (.int .u64 (.lit 1)), (.int .u64 (.lit 18446744073709551615)), (.int .u64 (.lit 16)), (.int .u64 (.lit 0)), (.int .u64 (.lit 0)), (.int .u64 (.lit 0)), (.int .u64 (.lit 0)), (.int .u64 (.lit 1)), (.int .u64 (.lit 0)), (.int .u64 (.lit 0)), (.int .u64 (.lit 0)), (.int .u64 (.lit 0)), (.int .u64 (.lit 0)), (.int .u64 (.lit 1)), (.int .u64 (.lit 0)), (.int .u64 (.lit 0)), (.int .u64 (.lit 0)), (.int .u64 (.lit 0)), (.int .u64 (.lit 0)), (.int .u64 (.lit 0)), (.int .u64 (.lit 0)), (.int .u64 (.lit 0)), (.int .u64 (.lit 0))] 61),
      (14, .cells [(.chan 16), (.chan 17)] 138),
      (15, .cells [(.ptr 2 (.lit 0)), (.int .i64 (.lit 0)), (.int .i64 (.lit 0))] 99),
      (16, .chan 1 []),
      (17, .chan 1 [])]
    groups := []
    next := 18 }

def u7 : Cut := { fn := 41, depth := 4, blk := 0, t := t7, ni := 0, nb := 0, nr := 0, key := [], sig := [[2, 2, 44], [2, 1, 18], [2, 4, 12], [2, 8, 40]] }
def g7 : Ctx := { rng := [], asm := [] }

def cuts : List ACut := [{ u := u0, g := g0, rank := 8 }, { u := u1, g := g1, rank := 7 }, { u := u2, g := g2, rank := 6 }, { u := u3, g := g3, rank := 5 }, { u := u4, g := g4, rank := 4 }, { u := u5, g := g5, rank := 3 }, { u := u6, g := g6, rank := 2 }, { u := u7, g := g7, rank := 1 }]
def top : Nat := 9

end
end Go.Proofs.YtkmogkobedmnkaaGreat.thinKnown
