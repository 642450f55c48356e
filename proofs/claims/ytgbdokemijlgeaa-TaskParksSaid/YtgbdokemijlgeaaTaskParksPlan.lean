/- The plan for the law TaskParks: configurations at the ends of loops. Definitions alone. -/
import Derived.Test.YtgbdokemijlgeaaChecked
import Derived.Test.YtgbdokemijlgeaaEv6
import Derived.KernelRfl
namespace Go.Proofs.Ytgbdokemijlgeaa.taskParks
open Go Go.Ev
noncomputable section

def shape : List (Option IntKind) := [some .u8, some .u8, none]
def t0 : Tmpl :=
  { fr := (frLoop Try.prog 4 2 [(0, (.int .u8 (.var 0))), (1, (.int .u8 (.var 1))), (2, (.bool (.var 0))), (6, (T false)), (7, (I 0)), (8, (.ptr 0 (.lit 0))), (9, (I 4))])
    callers := []
    blocks := [(0, .cells [(.slice 1 (.lit 0) (.lit 8) (.lit 8))] 99),
      (1, .cells [(.chan 2), (.chan 3), (.chan 4), (.chan 5), (.chan 6), (.chan 7), (.chan 8), (.chan 9)] 100),
      (2, .chanB (.eql (.bits .and .u8 (.shr (.var 1) 0) (.lit 1)) (.lit 1)) (.agg [])),
      (3, .chanB (.eql (.bits .and .u8 (.shr (.var 1) 1) (.lit 1)) (.lit 1)) (.agg [])),
      (4, .chanB (.eql (.bits .and .u8 (.shr (.var 1) 2) (.lit 1)) (.lit 1)) (.agg [])),
      (5, .chanB (.eql (.bits .and .u8 (.shr (.var 1) 3) (.lit 1)) (.lit 1)) (.agg [])),
      (6, .chan 1 []),
      (7, .chan 1 []),
      (8, .chan 1 []),
      (9, .chan 1 [])]
    groups := []
    next := 10 }

def u0 : Cut := { fn := 4, depth := 0, blk := 2, t := t0, ni := 2, nb := 1, nr := 0, key := [(7, 0), (9, 4)], sig := [] }
def g0 : Ctx := { rng := [(0, 255), (0, 255)], asm := [] }

def t1 : Tmpl :=
  { fr := (frLoop Try.prog 4 2 [(0, (.int .u8 (.var 0))), (1, (.int .u8 (.var 1))), (2, (.bool (.var 0))), (6, (T false)), (7, (I 0)), (8, (.ptr 0 (.lit 0))), (9, (I 8))])
    callers := []
    blocks := [(0, .cells [(.slice 1 (.lit 0) (.lit 8) (.lit 8))] 99),
      (1, .cells [(.chan 2), (.chan 3), (.chan 4), (.chan 5), (.chan 6), (.chan 7), (.chan 8), (.chan 9)] 100),
      (2, .chanB (.eql (.bits .and .u8 (.shr (.var 1) 0) (.lit 1)) (.lit 1)) (.agg [])),
      (3, .chanB (.eql (.bits .and .u8 (.shr (.var 1) 1) (.lit 1)) (.lit 1)) (.agg [])),
      (4, .chanB (.eql (.bits .and .u8 (.shr (.var 1) 2) (.lit 1)) (.lit 1)) (.agg [])),
      (5, .chanB (.eql (.bits .and .u8 (.shr (.var 1) 3) (.lit 1)) (.lit 1)) (.agg [])),
      (6, .chanB (.eql (.bits .and .u8 (.shr (.var 1) 4) (.lit 1)) (.lit 1)) (.agg [])),
      (7, .chanB (.eql (.bits .and .u8 (.shr (.var 1) 5) (.lit 1)) (.lit 1)) (.agg [])),
      (8, .chanB (.eql (.bits .and .u8 (.shr (.var 1) 6) (.lit 1)) (.lit 1)) (.agg [])),
      (9, .chanB (.eql (.bits .and .u8 (.shr (.var 1) 7) (.lit 1)) (.lit 1)) (.agg []))]
    groups := []
    next := 10 }

def u1 : Cut := { fn := 4, depth := 0, blk := 2, t := t1, ni := 2, nb := 1, nr := 0, key := [(7, 0), (9, 8)], sig := [] }
def g1 : Ctx := { rng := [(0, 255), (0, 255)], asm := [] }

def t2 : Tmpl :=
  { fr := (frLoop Try.prog 4 4 [(0, (.int .u8 (.var 0))), (1, (.int .u8 (.var 1))), (2, (.bool (.var 0))), (6, (T false)), (7, (I 0)), (8, (.ptr 0 (.lit 0))), (10, (I 0)), (13, (.ptr 1 (.lit 0))), (14, (.bool (.eql (.bits .and .u8 (.shr (.var 1) 0) (.lit 1)) (.lit 1)))), (15, (.int .i64 (.var 2)))])
    callers := []
    blocks := [(0, .cells [(.slice 2 (.lit 0) (.lit 8) (.lit 8))] 99),
      (1, .cells [(.ptr 3 (.lit 0)), (I 0), .nilSlice] 93),
      (2, .cells [(.chan 4), (.chan 5), (.chan 6), (.chan 7), (.chan 8), (.chan 9), (.chan 10), (.chan 11)] 100),
      (3, .cells [.nilFunc, (.ptr 0 (.lit 0)), (.int .i64 (.var 3)), (.bool (.var 0))] 95),
      (4, .chanB (.lit false) (.agg [])),
      (5, .chanB (.eql (.bits .and .u8 (.shr (.var 1) 1) (.lit 1)) (.lit 1)) (.agg [])),
      (6, .chanB (.eql (.bits .and .u8 (.shr (.var 1) 2) (.lit 1)) (.lit 1)) (.agg [])),
      (7, .chanB (.eql (.bits .and .u8 (.shr (.var 1) 3) (.lit 1)) (.lit 1)) (.agg [])),
      (8, .chanB (.eql (.bits .and .u8 (.shr (.var 1) 4) (.lit 1)) (.lit 1)) (.agg [])),
      (9, .chanB (.eql (.bits .and .u8 (.shr (.var 1) 5) (.lit 1)) (.lit 1)) (.agg [])),
      (10, .chanB (.eql (.bits .and .u8 (.shr (.var 1) 6) (.lit 1)) (.lit 1)) (.agg [])),
      (11, .chanB (.eql (.bits .and .u8 (.shr (.var 1) 7) (.lit 1)) (.lit 1)) (.agg []))]
    groups := []
    next := 12 }

def u2 : Cut := { fn := 4, depth := 0, blk := 4, t := t2, ni := 4, nb := 1, nr := 0, key := [(7, 0), (10, 0)], sig := [] }
def g2 : Ctx := { rng := [(0, 255), (0, 255), (0, 8), (0, 7)], asm := [] }

def t3 : Tmpl :=
  { fr := (frLoop Try.prog 4 4 [(0, (.int .u8 (.var 0))), (1, (.int .u8 (.var 1))), (2, (.bool (.var 0))), (6, (T false)), (7, (I 0)), (8, (.ptr 0 (.lit 0))), (10, (I 1)), (13, (.ptr 1 (.lit 0))), (14, (.bool (.eql (.bits .and .u8 (.shr (.var 1) 1) (.lit 1)) (.lit 1)))), (15, (.int .i64 (.var 2)))])
    callers := []
    blocks := [(0, .cells [(.slice 2 (.lit 0) (.lit 8) (.lit 8))] 99),
      (1, .cells [(.ptr 3 (.lit 0)), (I 0), .nilSlice] 93),
      (2, .cells [(.chan 4), (.chan 5), (.chan 6), (.chan 7), (.chan 8), (.chan 9), (.chan 10), (.chan 11)] 100),
      (3, .cells [.nilFunc, (.ptr 0 (.lit 0)), (.int .i64 (.var 3)), (.bool (.var 0))] 95),
      (4, .chanB (.eql (.bits .and .u8 (.shr (.var 1) 0) (.lit 1)) (.lit 1)) (.agg [])),
      (5, .chanB (.lit false) (.agg [])),
      (6, .chanB (.eql (.bits .and .u8 (.shr (.var 1) 2) (.lit 1)) (.lit 1)) (.agg [])),
      (7, .chanB (.eql (.bits .and .u8 (.shr (.var 1) 3) (.lit 1)) (.lit 1)) (.agg [])),
      (8, .chanB (.eql (.bits .and .u8 (.shr (.var 1) 4) (.lit 1)) (.lit 1)) (.agg [])),
      (9, .chanB (.eql (.bits .and .u8 (.shr (.var 1) 5) (.lit 1)) (.lit 1)) (.agg [])),
      (10, .chanB (.eql (.bits .and .u8 (.shr (.var 1) 6) (.lit 1)) (.lit 1)) (.agg [])),
      (11, .chanB (.eql (.bits .and .u8 (.shr (.var 1) 7) (.lit 1)) (.lit 1)) (.agg []))]
    groups := []
    next := 12 }

def u3 : Cut := { fn := 4, depth := 0, blk := 4, t := t3, ni := 4, nb := 1, nr := 0, key := [(7, 0), (10, 1)], sig := [] }
def g3 : Ctx := { rng := [(0, 255), (0, 255), (0, 8), (0, 7)], asm := [] }

def t4 : Tmpl :=
  { fr := (frLoop Try.prog 4 4 [(0, (.int .u8 (.var 0))), (1, (.int .u8 (.var 1))), (2, (.bool (.var 0))), (6, (T false)), (7, (I 0)), (8, (.ptr 0 (.lit 0))), (10, (I 2)), (13, (.ptr 1 (.lit 0))), (14, (.bool (.eql (.bits .and .u8 (.shr (.var 1) 2) (.lit 1)) (.lit 1)))), (15, (.int .i64 (.var 2)))])
    callers := []
    blocks := [(0, .cells [(.slice 2 (.lit 0) (.lit 8) (.lit 8))] 99),
      (1, .cells [(.ptr 3 (.lit 0)), (I 0), .nilSlice] 93),
      (2, .cells [(.chan 4), (.chan 5), (.chan 6), (.chan 7), (.chan 8), (.chan 9), (.chan 10), (.chan 11)] 100),
      (3, .cells [.nilFunc, (.ptr 0 (.lit 0)), (.int .i64 (.var 3)), (.bool (.var 0))] 95),
      (4, .chanB (.eql (.bits .and .u8 (.shr (.var 1) 0) (.lit 1)) (.lit 1)) (.agg [])),
      (5, .chanB (.eql (.bits .and .u8 (.shr (.var 1) 1) (.lit 1)) (.lit 1)) (.agg [])),
      (6, .chanB (.lit false) (.agg [])),
      (7, .chanB (.eql (.bits .and .u8 (.shr (.var 1) 3) (.lit 1)) (.lit 1)) (.agg [])),
      (8, .chanB (.eql (.bits .and .u8 (.shr (.var 1) 4) (.lit 1)) (.lit 1)) (.agg [])),
      (9, .chanB (.eql (.bits .and .u8 (.shr (.var 1) 5) (.lit 1)) (.lit 1)) (.agg [])),
      (10, .chanB (.eql (.bits .and .u8 (.shr (.var 1) 6) (.lit 1)) (.lit 1)) (.agg [])),
      (11, .chanB (.eql (.bits .and .u8 (.shr (.var 1) 7) (.lit 1)) (.lit 1)) (.agg []))]
    groups := []
    next := 12 }

def u4 : Cut := { fn := 4, depth := 0, blk := 4, t := t4, ni := 4, nb := 1, nr := 0, key := [(7, 0), (10, 2)], sig := [] }
def g4 : Ctx := { rng := [(0, 255), (0, 255), (0, 8), (0, 7)], asm := [] }

def t5 : Tmpl :=
  { fr := (frLoop Try.prog 4 4 [(0, (.int .u8 (.var 0))), (1, (.int .u8 (.var 1))), (2, (.bool (.var 0))), (6, (T false)), (7, (I 0)), (8, (.ptr 0 (.lit 0))), (10, (I 3)), (13, (.ptr 1 (.lit 0))), (14, (.bool (.eql (.bits .and .u8 (.shr (.var 1) 3) (.lit 1)) (.lit 1)))), (15, (.int .i64 (.var 2)))])
    callers := []
    blocks := [(0, .cells [(.slice 2 (.lit 0) (.lit 8) (.lit 8))] 99),
      (1, .cells [(.ptr 3 (.lit 0)), (I 0), .nilSlice] 93),
      (2, .cells [(.chan 4), (.chan 5), (.chan 6), (.chan 7), (.chan 8), (.chan 9), (.chan 10), (.chan 11)] 100),
      (3, .cells [.nilFunc, (.ptr 0 (.lit 0)), (.int .i64 (.var 3)), (.bool (.var 0))] 95),
      (4, .chanB (.eql (.bits .and .u8 (.shr (.var 1) 0) (.lit 1)) (.lit 1)) (.agg [])),
      (5, .chanB (.eql (.bits .and .u8 (.shr (.var 1) 1) (.lit 1)) (.lit 1)) (.agg [])),
      (6, .chanB (.eql (.bits .and .u8 (.shr (.var 1) 2) (.lit 1)) (.lit 1)) (.agg [])),
      (7, .chanB (.lit false) (.agg [])),
      (8, .chanB (.eql (.bits .and .u8 (.shr (.var 1) 4) (.lit 1)) (.lit 1)) (.agg [])),
      (9, .chanB (.eql (.bits .and .u8 (.shr (.var 1) 5) (.lit 1)) (.lit 1)) (.agg [])),
      (10, .chanB (.eql (.bits .and .u8 (.shr (.var 1) 6) (.lit 1)) (.lit 1)) (.agg [])),
      (11, .chanB (.eql (.bits .and .u8 (.shr (.var 1) 7) (.lit 1)) (.lit 1)) (.agg []))]
    groups := []
    next := 12 }

def u5 : Cut := { fn := 4, depth := 0, blk := 4, t := t5, ni := 4, nb := 1, nr := 0, key := [(7, 0), (10, 3)], sig := [] }
def g5 : Ctx := { rng := [(0, 255), (0, 255), (0, 8), (0, 7)], asm := [] }

def t6 : Tmpl :=
  { fr := (frLoop Try.prog 4 4 [(0, (.int .u8 (.var 0))), (1, (.int .u8 (.var 1))), (2, (.bool (.var 0))), (6, (T false)), (7, (I 0)), (8, (.ptr 0 (.lit 0))), (10, (I 4)), (13, (.ptr 1 (.lit 0))), (14, (.bool (.eql (.bits .and .u8 (.shr (.var 1) 4) (.lit 1)) (.lit 1)))), (15, (.int .i64 (.var 2)))])
    callers := []
    blocks := [(0, .cells [(.slice 2 (.lit 0) (.lit 8) (.lit 8))] 99),
      (1, .cells [(.ptr 3 (.lit 0)), (I 0), .nilSlice] 93),
      (2, .cells [(.chan 4), (.chan 5), (.chan 6), (.chan 7), (.chan 8), (.chan 9), (.chan 10), (.chan 11)] 100),
      (3, .cells [.nilFunc, (.ptr 0 (.lit 0)), (.int .i64 (.var 3)), (.bool (.var 0))] 95),
      (4, .chanB (.eql (.bits .and .u8 (.shr (.var 1) 0) (.lit 1)) (.lit 1)) (.agg [])),
      (5, .chanB (.eql (.bits .and .u8 (.shr (.var 1) 1) (.lit 1)) (.lit 1)) (.agg [])),
      (6, .chanB (.eql (.bits .and .u8 (.shr (.var 1) 2) (.lit 1)) (.lit 1)) (.agg [])),
      (7, .chanB (.eql (.bits .and .u8 (.shr (.var 1) 3) (.lit 1)) (.lit 1)) (.agg [])),
      (8, .chanB (.lit false) (.agg [])),
      (9, .chanB (.eql (.bits .and .u8 (.shr (.var 1) 5) (.lit 1)) (.lit 1)) (.agg [])),
      (10, .chanB (.eql (.bits .and .u8 (.shr (.var 1) 6) (.lit 1)) (.lit 1)) (.agg [])),
      (11, .chanB (.eql (.bits .and .u8 (.shr (.var 1) 7) (.lit 1)) (.lit 1)) (.agg []))]
    groups := []
    next := 12 }

def u6 : Cut := { fn := 4, depth := 0, blk := 4, t := t6, ni := 4, nb := 1, nr := 0, key := [(7, 0), (10, 4)], sig := [] }
def g6 : Ctx := { rng := [(0, 255), (0, 255), (0, 8), (0, 7)], asm := [] }

def t7 : Tmpl :=
  { fr := (frLoop Try.prog 4 4 [(0, (.int .u8 (.var 0))), (1, (.int .u8 (.var 1))), (2, (.bool (.var 0))), (6, (T false)), (7, (I 0)), (8, (.ptr 0 (.lit 0))), (10, (I 5)), (13, (.ptr 1 (.lit 0))), (14, (.bool (.eql (.bits .and .u8 (.shr (.var 1) 5) (.lit 1)) (.lit 1)))), (15, (.int .i64 (.var 2)))])
    callers := []
    blocks := [(0, .cells [(.slice 2 (.lit 0) (.lit 8) (.lit 8))] 99),
      (1, .cells [(.ptr 3 (.lit 0)), (I 0), .nilSlice] 93),
      (2, .cells [(.chan 4), (.chan 5), (.chan 6), (.chan 7), (.chan 8), (.chan 9), (.chan 10), (.chan 11)] 100),
      (3, .cells [.nilFunc, (.ptr 0 (.lit 0)), (.int .i64 (.var 3)), (.bool (.var 0))] 95),
      (4, .chanB (.eql (.bits .and .u8 (.shr (.var 1) 0) (.lit 1)) (.lit 1)) (.agg [])),
      (5, .chanB (.eql (.bits .and .u8 (.shr (.var 1) 1) (.lit 1)) (.lit 1)) (.agg [])),
      (6, .chanB (.eql (.bits .and .u8 (.shr (.var 1) 2) (.lit 1)) (.lit 1)) (.agg [])),
      (7, .chanB (.eql (.bits .and .u8 (.shr (.var 1) 3) (.lit 1)) (.lit 1)) (.agg [])),
      (8, .chanB (.eql (.bits .and .u8 (.shr (.var 1) 4) (.lit 1)) (.lit 1)) (.agg [])),
      (9, .chanB (.lit false) (.agg [])),
      (10, .chanB (.eql (.bits .and .u8 (.shr (.var 1) 6) (.lit 1)) (.lit 1)) (.agg [])),
      (11, .chanB (.eql (.bits .and .u8 (.shr (.var 1) 7) (.lit 1)) (.lit 1)) (.agg []))]
    groups := []
    next := 12 }

def u7 : Cut := { fn := 4, depth := 0, blk := 4, t := t7, ni := 4, nb := 1, nr := 0, key := [(7, 0), (10, 5)], sig := [] }
def g7 : Ctx := { rng := [(0, 255), (0, 255), (0, 8), (0, 7)], asm := [] }

def t8 : Tmpl :=
  { fr := (frLoop Try.prog 4 4 [(0, (.int .u8 (.var 0))), (1, (.int .u8 (.var 1))), (2, (.bool (.var 0))), (6, (T false)), (7, (I 0)), (8, (.ptr 0 (.lit 0))), (10, (I 6)), (13, (.ptr 1 (.lit 0))), (14, (.bool (.eql (.bits .and .u8 (.shr (.var 1) 6) (.lit 1)) (.lit 1)))), (15, (.int .i64 (.var 2)))])
    callers := []
    blocks := [(0, .cells [(.slice 2 (.lit 0) (.lit 8) (.lit 8))] 99),
      (1, .cells [(.ptr 3 (.lit 0)), (I 0), .nilSlice] 93),
      (2, .cells [(.chan 4), (.chan 5), (.chan 6), (.chan 7), (.chan 8), (.chan 9), (.chan 10), (.chan 11)] 100),
      (3, .cells [.nilFunc, (.ptr 0 (.lit 0)), (.int .i64 (.var 3)), (.bool (.var 0))] 95),
      (4, .chanB (.eql (.bits .and .u8 (.shr (.var 1) 0) (.lit 1)) (.lit 1)) (.agg [])),
      (5, .chanB (.eql (.bits .and .u8 (.shr (.var 1) 1) (.lit 1)) (.lit 1)) (.agg [])),
      (6, .chanB (.eql (.bits .and .u8 (.shr (.var 1) 2) (.lit 1)) (.lit 1)) (.agg [])),
      (7, .chanB (.eql (.bits .and .u8 (.shr (.var 1) 3) (.lit 1)) (.lit 1)) (.agg [])),
      (8, .chanB (.eql (.bits .and .u8 (.shr (.var 1) 4) (.lit 1)) (.lit 1)) (.agg [])),
      (9, .chanB (.eql (.bits .and .u8 (.shr (.var 1) 5) (.lit 1)) (.lit 1)) (.agg [])),
      (10, .chanB (.lit false) (.agg [])),
      (11, .chanB (.eql (.bits .and .u8 (.shr (.var 1) 7) (.lit 1)) (.lit 1)) (.agg []))]
    groups := []
    next := 12 }

def u8 : Cut := { fn := 4, depth := 0, blk := 4, t := t8, ni := 4, nb := 1, nr := 0, key := [(7, 0), (10, 6)], sig := [] }
def g8 : Ctx := { rng := [(0, 255), (0, 255), (0, 8), (0, 7)], asm := [] }

def t9 : Tmpl :=
  { fr := (frLoop Try.prog 4 4 [(0, (.int .u8 (.var 0))), (1, (.int .u8 (.var 1))), (2, (.bool (.var 0))), (6, (T false)), (7, (I 0)), (8, (.ptr 0 (.lit 0))), (10, (I 7)), (13, (.ptr 1 (.lit 0))), (14, (.bool (.eql (.bits .and .u8 (.shr (.var 1) 7) (.lit 1)) (.lit 1)))), (15, (.int .i64 (.var 2)))])
    callers := []
    blocks := [(0, .cells [(.slice 2 (.lit 0) (.lit 8) (.lit 8))] 99),
      (1, .cells [(.ptr 3 (.lit 0)), (I 0), .nilSlice] 93),
      (2, .cells [(.chan 4), (.chan 5), (.chan 6), (.chan 7), (.chan 8), (.chan 9), (.chan 10), (.chan 11)] 100),
      (3, .cells [.nilFunc, (.ptr 0 (.lit 0)), (.int .i64 (.var 3)), (.bool (.var 0))] 95),
      (4, .chanB (.eql (.bits .and .u8 (.shr (.var 1) 0) (.lit 1)) (.lit 1)) (.agg [])),
      (5, .chanB (.eql (.bits .and .u8 (.shr (.var 1) 1) (.lit 1)) (.lit 1)) (.agg [])),
      (6, .chanB (.eql (.bits .and .u8 (.shr (.var 1) 2) (.lit 1)) (.lit 1)) (.agg [])),
      (7, .chanB (.eql (.bits .and .u8 (.shr (.var 1) 3) (.lit 1)) (.lit 1)) (.agg [])),
      (8, .chanB (.eql (.bits .and .u8 (.shr (.var 1) 4) (.lit 1)) (.lit 1)) (.agg [])),
      (9, .chanB (.eql (.bits .and .u8 (.shr (.var 1) 5) (.lit 1)) (.lit 1)) (.agg [])),
      (10, .chanB (.eql (.bits .and .u8 (.shr (.var 1) 6) (.lit 1)) (.lit 1)) (.agg [])),
      (11, .chanB (.lit false) (.agg []))]
    groups := []
    next := 12 }

def u9 : Cut := { fn := 4, depth := 0, blk := 4, t := t9, ni := 4, nb := 1, nr := 0, key := [(7, 0), (10, 7)], sig := [] }
def g9 : Ctx := { rng := [(0, 255), (0, 255), (0, 8), (0, 7)], asm := [] }

def t10 : Tmpl :=
  { fr := (frLoop Try.prog 4 0 [(0, (.int .u8 (.var 0))), (1, (.int .u8 (.var 1))), (2, (.bool (.var 0))), (6, (T false)), (7, (I 1))])
    callers := []
    blocks := []
    groups := []
    next := 0 }

def u10 : Cut := { fn := 4, depth := 0, blk := 0, t := t10, ni := 2, nb := 1, nr := 0, key := [(7, 1)], sig := [] }
def g10 : Ctx := { rng := [(0, 255), (0, 255)], asm := [] }

def t11 : Tmpl :=
  { fr := (frLoop Try.prog 4 2 [(0, (.int .u8 (.var 0))), (1, (.int .u8 (.var 1))), (2, (.bool (.var 0))), (6, (T false)), (7, (I 1)), (8, (.ptr 0 (.lit 0))), (9, (I 4))])
    callers := []
    blocks := [(0, .cells [(.slice 1 (.lit 0) (.lit 8) (.lit 8))] 99),
      (1, .cells [(.chan 2), (.chan 3), (.chan 4), (.chan 5), (.chan 6), (.chan 7), (.chan 8), (.chan 9)] 100),
      (2, .chanB (.eql (.bits .and .u8 (.shr (.var 1) 0) (.lit 1)) (.lit 1)) (.agg [])),
      (3, .chanB (.eql (.bits .and .u8 (.shr (.var 1) 1) (.lit 1)) (.lit 1)) (.agg [])),
      (4, .chanB (.eql (.bits .and .u8 (.shr (.var 1) 2) (.lit 1)) (.lit 1)) (.agg [])),
      (5, .chanB (.eql (.bits .and .u8 (.shr (.var 1) 3) (.lit 1)) (.lit 1)) (.agg [])),
      (6, .chan 1 []),
      (7, .chan 1 []),
      (8, .chan 1 []),
      (9, .chan 1 [])]
    groups := []
    next := 10 }

def u11 : Cut := { fn := 4, depth := 0, blk := 2, t := t11, ni := 2, nb := 1, nr := 0, key := [(7, 1), (9, 4)], sig := [] }
def g11 : Ctx := { rng := [(0, 255), (0, 255)], asm := [] }

def t12 : Tmpl :=
  { fr := (frLoop Try.prog 4 2 [(0, (.int .u8 (.var 0))), (1, (.int .u8 (.var 1))), (2, (.bool (.var 0))), (6, (T false)), (7, (I 1)), (8, (.ptr 0 (.lit 0))), (9, (I 8))])
    callers := []
    blocks := [(0, .cells [(.slice 1 (.lit 0) (.lit 8) (.lit 8))] 99),
      (1, .cells [(.chan 2), (.chan 3), (.chan 4), (.chan 5), (.chan 6), (.chan 7), (.chan 8), (.chan 9)] 100),
      (2, .chanB (.eql (.bits .and .u8 (.shr (.var 1) 0) (.lit 1)) (.lit 1)) (.agg [])),
      (3, .chanB (.eql (.bits .and .u8 (.shr (.var 1) 1) (.lit 1)) (.lit 1)) (.agg [])),
      (4, .chanB (.eql (.bits .and .u8 (.shr (.var 1) 2) (.lit 1)) (.lit 1)) (.agg [])),
      (5, .chanB (.eql (.bits .and .u8 (.shr (.var 1) 3) (.lit 1)) (.lit 1)) (.agg [])),
      (6, .chanB (.eql (.bits .and .u8 (.shr (.var 1) 4) (.lit 1)) (.lit 1)) (.agg [])),
      (7, .chanB (.eql (.bits .and .u8 (.shr (.var 1) 5) (.lit 1)) (.lit 1)) (.agg [])),
      (8, .chanB (.eql (.bits .and .u8 (.shr (.var 1) 6) (.lit 1)) (.lit 1)) (.agg [])),
      (9, .chanB (.eql (.bits .and .u8 (.shr (.var 1) 7) (.lit 1)) (.lit 1)) (.agg []))]
    groups := []
    next := 10 }

def u12 : Cut := { fn := 4, depth := 0, blk := 2, t := t12, ni := 2, nb := 1, nr := 0, key := [(7, 1), (9, 8)], sig := [] }
def g12 : Ctx := { rng := [(0, 255), (0, 255)], asm := [] }

def t13 : Tmpl :=
  { fr := (frLoop Try.prog 4 4 [(0, (.int .u8 (.var 0))), (1, (.int .u8 (.var 1))), (2, (.bool (.var 0))), (6, (T false)), (7, (I 1)), (8, (.ptr 0 (.lit 0))), (10, (I 0)), (13, (.ptr 1 (.lit 0))), (14, (.bool (.var 0))), (15, (.int .i64 (.var 2)))])
    callers := []
    blocks := [(0, .cells [(.slice 2 (.lit 0) (.lit 8) (.lit 8))] 99),
      (1, .cells [(.ptr 3 (.lit 0)), (I 0), .nilSlice] 93),
      (2, .cells [(.chan 4), (.chan 5), (.chan 6), (.chan 7), (.chan 8), (.chan 9), (.chan 10), (.chan 11)] 100),
      (3, .cells [.nilFunc, (.ptr 0 (.lit 0)), (.int .i64 (.var 3)), (.bool (.var 0))] 95),
      (4, .chanB (.eql (.bits .and .u8 (.shr (.var 1) 0) (.lit 1)) (.lit 1)) (.agg [])),
      (5, .chanB (.eql (.bits .and .u8 (.shr (.var 1) 1) (.lit 1)) (.lit 1)) (.agg [])),
      (6, .chanB (.eql (.bits .and .u8 (.shr (.var 1) 2) (.lit 1)) (.lit 1)) (.agg [])),
      (7, .chanB (.eql (.bits .and .u8 (.shr (.var 1) 3) (.lit 1)) (.lit 1)) (.agg [])),
      (8, .chanB (.eql (.bits .and .u8 (.shr (.var 1) 4) (.lit 1)) (.lit 1)) (.agg [])),
      (9, .chanB (.eql (.bits .and .u8 (.shr (.var 1) 5) (.lit 1)) (.lit 1)) (.agg [])),
      (10, .chanB (.eql (.bits .and .u8 (.shr (.var 1) 6) (.lit 1)) (.lit 1)) (.agg [])),
      (11, .chanB (.eql (.bits .and .u8 (.shr (.var 1) 7) (.lit 1)) (.lit 1)) (.agg []))]
    groups := []
    next := 12 }

def u13 : Cut := { fn := 4, depth := 0, blk := 4, t := t13, ni := 4, nb := 1, nr := 0, key := [(7, 1), (10, 0)], sig := [] }
def g13 : Ctx := { rng := [(0, 255), (0, 255), (0, 8), (0, 7)], asm := [] }

def t14 : Tmpl :=
  { fr := (frLoop Try.prog 4 4 [(0, (.int .u8 (.var 0))), (1, (.int .u8 (.var 1))), (2, (.bool (.var 0))), (6, (T false)), (7, (I 1)), (8, (.ptr 0 (.lit 0))), (10, (I 1)), (13, (.ptr 1 (.lit 0))), (14, (.bool (.var 0))), (15, (.int .i64 (.var 2)))])
    callers := []
    blocks := [(0, .cells [(.slice 2 (.lit 0) (.lit 8) (.lit 8))] 99),
      (1, .cells [(.ptr 3 (.lit 0)), (I 0), .nilSlice] 93),
      (2, .cells [(.chan 4), (.chan 5), (.chan 6), (.chan 7), (.chan 8), (.chan 9), (.chan 10), (.chan 11)] 100),
      (3, .cells [.nilFunc, (.ptr 0 (.lit 0)), (.int .i64 (.var 3)), (.bool (.var 0))] 95),
      (4, .chanB (.eql (.bits .and .u8 (.shr (.var 1) 0) (.lit 1)) (.lit 1)) (.agg [])),
      (5, .chanB (.eql (.bits .and .u8 (.shr (.var 1) 1) (.lit 1)) (.lit 1)) (.agg [])),
      (6, .chanB (.eql (.bits .and .u8 (.shr (.var 1) 2) (.lit 1)) (.lit 1)) (.agg [])),
      (7, .chanB (.eql (.bits .and .u8 (.shr (.var 1) 3) (.lit 1)) (.lit 1)) (.agg [])),
      (8, .chanB (.eql (.bits .and .u8 (.shr (.var 1) 4) (.lit 1)) (.lit 1)) (.agg [])),
      (9, .chanB (.eql (.bits .and .u8 (.shr (.var 1) 5) (.lit 1)) (.lit 1)) (.agg [])),
      (10, .chanB (.eql (.bits .and .u8 (.shr (.var 1) 6) (.lit 1)) (.lit 1)) (.agg [])),
      (11, .chanB (.eql (.bits .and .u8 (.shr (.var 1) 7) (.lit 1)) (.lit 1)) (.agg []))]
    groups := []
    next := 12 }

def u14 : Cut := { fn := 4, depth := 0, blk := 4, t := t14, ni := 4, nb := 1, nr := 0, key := [(7, 1), (10, 1)], sig := [] }
def g14 : Ctx := { rng := [(0, 255), (0, 255), (0, 8), (0, 7)], asm := [] }

def t15 : Tmpl :=
  { fr := (frLoop Try.prog 4 4 [(0, (.int .u8 (.var 0))), (1, (.int .u8 (.var 1))), (2, (.bool (.var 0))), (6, (T false)), (7, (I 1)), (8, (.ptr 0 (.lit 0))), (10, (I 2)), (13, (.ptr 1 (.lit 0))), (14, (.bool (.var 0))), (15, (.int .i64 (.var 2)))])
    callers := []
    blocks := [(0, .cells [(.slice 2 (.lit 0) (.lit 8) (.lit 8))] 99),
      (1, .cells [(.ptr 3 (.lit 0)), (I 0), .nilSlice] 93),
      (2, .cells [(.chan 4), (.chan 5), (.chan 6), (.chan 7), (.chan 8), (.chan 9), (.chan 10), (.chan 11)] 100),
      (3, .cells [.nilFunc, (.ptr 0 (.lit 0)), (.int .i64 (.var 3)), (.bool (.var 0))] 95),
      (4, .chanB (.eql (.bits .and .u8 (.shr (.var 1) 0) (.lit 1)) (.lit 1)) (.agg [])),
      (5, .chanB (.eql (.bits .and .u8 (.shr (.var 1) 1) (.lit 1)) (.lit 1)) (.agg [])),
      (6, .chanB (.eql (.bits .and .u8 (.shr (.var 1) 2) (.lit 1)) (.lit 1)) (.agg [])),
      (7, .chanB (.eql (.bits .and .u8 (.shr (.var 1) 3) (.lit 1)) (.lit 1)) (.agg [])),
      (8, .chanB (.eql (.bits .and .u8 (.shr (.var 1) 4) (.lit 1)) (.lit 1)) (.agg [])),
      (9, .chanB (.eql (.bits .and .u8 (.shr (.var 1) 5) (.lit 1)) (.lit 1)) (.agg [])),
      (10, .chanB (.eql (.bits .and .u8 (.shr (.var 1) 6) (.lit 1)) (.lit 1)) (.agg [])),
      (11, .chanB (.eql (.bits .and .u8 (.shr (.var 1) 7) (.lit 1)) (.lit 1)) (.agg []))]
    groups := []
    next := 12 }

def u15 : Cut := { fn := 4, depth := 0, blk := 4, t := t15, ni := 4, nb := 1, nr := 0, key := [(7, 1), (10, 2)], sig := [] }
def g15 : Ctx := { rng := [(0, 255), (0, 255), (0, 8), (0, 7)], asm := [] }

def t16 : Tmpl :=
  { fr := (frLoop Try.prog 4 4 [(0, (.int .u8 (.var 0))), (1, (.int .u8 (.var 1))), (2, (.bool (.var 0))), (6, (T false)), (7, (I 1)), (8, (.ptr 0 (.lit 0))), (10, (I 3)), (13, (.ptr 1 (.lit 0))), (14, (.bool (.var 0))), (15, (.int .i64 (.var 2)))])
    callers := []
    blocks := [(0, .cells [(.slice 2 (.lit 0) (.lit 8) (.lit 8))] 99),
      (1, .cells [(.ptr 3 (.lit 0)), (I 0), .nilSlice] 93),
      (2, .cells [(.chan 4), (.chan 5), (.chan 6), (.chan 7), (.chan 8), (.chan 9), (.chan 10), (.chan 11)] 100),
      (3, .cells [.nilFunc, (.ptr 0 (.lit 0)), (.int .i64 (.var 3)), (.bool (.var 0))] 95),
      (4, .chanB (.eql (.bits .and .u8 (.shr (.var 1) 0) (.lit 1)) (.lit 1)) (.agg [])),
      (5, .chanB (.eql (.bits .and .u8 (.shr (.var 1) 1) (.lit 1)) (.lit 1)) (.agg [])),
      (6, .chanB (.eql (.bits .and .u8 (.shr (.var 1) 2) (.lit 1)) (.lit 1)) (.agg [])),
      (7, .chanB (.eql (.bits .and .u8 (.shr (.var 1) 3) (.lit 1)) (.lit 1)) (.agg [])),
      (8, .chanB (.eql (.bits .and .u8 (.shr (.var 1) 4) (.lit 1)) (.lit 1)) (.agg [])),
      (9, .chanB (.eql (.bits .and .u8 (.shr (.var 1) 5) (.lit 1)) (.lit 1)) (.agg [])),
      (10, .chanB (.eql (.bits .and .u8 (.shr (.var 1) 6) (.lit 1)) (.lit 1)) (.agg [])),
      (11, .chanB (.eql (.bits .and .u8 (.shr (.var 1) 7) (.lit 1)) (.lit 1)) (.agg []))]
    groups := []
    next := 12 }

def u16 : Cut := { fn := 4, depth := 0, blk := 4, t := t16, ni := 4, nb := 1, nr := 0, key := [(7, 1), (10, 3)], sig := [] }
def g16 : Ctx := { rng := [(0, 255), (0, 255), (0, 8), (0, 7)], asm := [] }

def t17 : Tmpl :=
  { fr := (frLoop Try.prog 4 4 [(0, (.int .u8 (.var 0))), (1, (.int .u8 (.var 1))), (2, (.bool (.var 0))), (6, (T false)), (7, (I 1)), (8, (.ptr 0 (.lit 0))), (10, (I 4)), (13, (.ptr 1 (.lit 0))), (14, (.bool (.var 0))), (15, (.int .i64 (.var 2)))])
    callers := []
    blocks := [(0, .cells [(.slice 2 (.lit 0) (.lit 8) (.lit 8))] 99),
      (1, .cells [(.ptr 3 (.lit 0)), (I 0), .nilSlice] 93),
      (2, .cells [(.chan 4), (.chan 5), (.chan 6), (.chan 7), (.chan 8), (.chan 9), (.chan 10), (.chan 11)] 100),
      (3, .cells [.nilFunc, (.ptr 0 (.lit 0)), (.int .i64 (.var 3)), (.bool (.var 0))] 95),
      (4, .chanB (.eql (.bits .and .u8 (.shr (.var 1) 0) (.lit 1)) (.lit 1)) (.agg [])),
      (5, .chanB (.eql (.bits .and .u8 (.shr (.var 1) 1) (.lit 1)) (.lit 1)) (.agg [])),
      (6, .chanB (.eql (.bits .and .u8 (.shr (.var 1) 2) (.lit 1)) (.lit 1)) (.agg [])),
      (7, .chanB (.eql (.bits .and .u8 (.shr (.var 1) 3) (.lit 1)) (.lit 1)) (.agg [])),
      (8, .chanB (.eql (.bits .and .u8 (.shr (.var 1) 4) (.lit 1)) (.lit 1)) (.agg [])),
      (9, .chanB (.eql (.bits .and .u8 (.shr (.var 1) 5) (.lit 1)) (.lit 1)) (.agg [])),
      (10, .chanB (.eql (.bits .and .u8 (.shr (.var 1) 6) (.lit 1)) (.lit 1)) (.agg [])),
      (11, .chanB (.eql (.bits .and .u8 (.shr (.var 1) 7) (.lit 1)) (.lit 1)) (.agg []))]
    groups := []
    next := 12 }

def u17 : Cut := { fn := 4, depth := 0, blk := 4, t := t17, ni := 4, nb := 1, nr := 0, key := [(7, 1), (10, 4)], sig := [] }
def g17 : Ctx := { rng := [(0, 255), (0, 255), (0, 8), (0, 7)], asm := [] }

def t18 : Tmpl :=
  { fr := (frLoop Try.prog 4 4 [(0, (.int .u8 (.var 0))), (1, (.int .u8 (.var 1))), (2, (.bool (.var 0))), (6, (T false)), (7, (I 1)), (8, (.ptr 0 (.lit 0))), (10, (I 5)), (13, (.ptr 1 (.lit 0))), (14, (.bool (.var 0))), (15, (.int .i64 (.var 2)))])
    callers := []
    blocks := [(0, .cells [(.slice 2 (.lit 0) (.lit 8) (.lit 8))] 99),
      (1, .cells [(.ptr 3 (.lit 0)), (I 0), .nilSlice] 93),
      (2, .cells [(.chan 4), (.chan 5), (.chan 6), (.chan 7), (.chan 8), (.chan 9), (.chan 10), (.chan 11)] 100),
      (3, .cells [.nilFunc, (.ptr 0 (.lit 0)), (.int .i64 (.var 3)), (.bool (.var 0))] 95),
      (4, .chanB (.eql (.bits .and .u8 (.shr (.var 1) 0) (.lit 1)) (.lit 1)) (.agg [])),
      (5, .chanB (.eql (.bits .and .u8 (.shr (.var 1) 1) (.lit 1)) (.lit 1)) (.agg [])),
      (6, .chanB (.eql (.bits .and .u8 (.shr (.var 1) 2) (.lit 1)) (.lit 1)) (.agg [])),
      (7, .chanB (.eql (.bits .and .u8 (.shr (.var 1) 3) (.lit 1)) (.lit 1)) (.agg [])),
      (8, .chanB (.eql (.bits .and .u8 (.shr (.var 1) 4) (.lit 1)) (.lit 1)) (.agg [])),
      (9, .chanB (.eql (.bits .and .u8 (.shr (.var 1) 5) (.lit 1)) (.lit 1)) (.agg [])),
      (10, .chanB (.eql (.bits .and .u8 (.shr (.var 1) 6) (.lit 1)) (.lit 1)) (.agg [])),
      (11, .chanB (.eql (.bits .and .u8 (.shr (.var 1) 7) (.lit 1)) (.lit 1)) (.agg []))]
    groups := []
    next := 12 }

def u18 : Cut := { fn := 4, depth := 0, blk := 4, t := t18, ni := 4, nb := 1, nr := 0, key := [(7, 1), (10, 5)], sig := [] }
def g18 : Ctx := { rng := [(0, 255), (0, 255), (0, 8), (0, 7)], asm := [] }

def t19 : Tmpl :=
  { fr := (frLoop Try.prog 4 4 [(0, (.int .u8 (.var 0))), (1, (.int .u8 (.var 1))), (2, (.bool (.var 0))), (6, (T false)), (7, (I 1)), (8, (.ptr 0 (.lit 0))), (10, (I 6)), (13, (.ptr 1 (.lit 0))), (14, (.bool (.var 0))), (15, (.int .i64 (.var 2)))])
    callers := []
    blocks := [(0, .cells [(.slice 2 (.lit 0) (.lit 8) (.lit 8))] 99),
      (1, .cells [(.ptr 3 (.lit 0)), (I 0), .nilSlice] 93),
      (2, .cells [(.chan 4), (.chan 5), (.chan 6), (.chan 7), (.chan 8), (.chan 9), (.chan 10), (.chan 11)] 100),
      (3, .cells [.nilFunc, (.ptr 0 (.lit 0)), (.int .i64 (.var 3)), (.bool (.var 0))] 95),
      (4, .chanB (.eql (.bits .and .u8 (.shr (.var 1) 0) (.lit 1)) (.lit 1)) (.agg [])),
      (5, .chanB (.eql (.bits .and .u8 (.shr (.var 1) 1) (.lit 1)) (.lit 1)) (.agg [])),
      (6, .chanB (.eql (.bits .and .u8 (.shr (.var 1) 2) (.lit 1)) (.lit 1)) (.agg [])),
      (7, .chanB (.eql (.bits .and .u8 (.shr (.var 1) 3) (.lit 1)) (.lit 1)) (.agg [])),
      (8, .chanB (.eql (.bits .and .u8 (.shr (.var 1) 4) (.lit 1)) (.lit 1)) (.agg [])),
      (9, .chanB (.eql (.bits .and .u8 (.shr (.var 1) 5) (.lit 1)) (.lit 1)) (.agg [])),
      (10, .chanB (.eql (.bits .and .u8 (.shr (.var 1) 6) (.lit 1)) (.lit 1)) (.agg [])),
      (11, .chanB (.eql (.bits .and .u8 (.shr (.var 1) 7) (.lit 1)) (.lit 1)) (.agg []))]
    groups := []
    next := 12 }

def u19 : Cut := { fn := 4, depth := 0, blk := 4, t := t19, ni := 4, nb := 1, nr := 0, key := [(7, 1), (10, 6)], sig := [] }
def g19 : Ctx := { rng := [(0, 255), (0, 255), (0, 8), (0, 7)], asm := [] }

def t20 : Tmpl :=
  { fr := (frLoop Try.prog 4 4 [(0, (.int .u8 (.var 0))), (1, (.int .u8 (.var 1))), (2, (.bool (.var 0))), (6, (T false)), (7, (I 1)), (8, (.ptr 0 (.lit 0))), (10, (I 7)), (13, (.ptr 1 (.lit 0))), (14, (.bool (.var 0))), (15, (.int .i64 (.var 2)))])
    callers := []
    blocks := [(0, .cells [(.slice 2 (.lit 0) (.lit 8) (.lit 8))] 99),
      (1, .cells [(.ptr 3 (.lit 0)), (I 0), .nilSlice] 93),
      (2, .cells [(.chan 4), (.chan 5), (.chan 6), (.chan 7), (.chan 8), (.chan 9), (.chan 10), (.chan 11)] 100),
      (3, .cells [.nilFunc, (.ptr 0 (.lit 0)), (.int .i64 (.var 3)), (.bool (.var 0))] 95),
      (4, .chanB (.eql (.bits .and .u8 (.shr (.var 1) 0) (.lit 1)) (.lit 1)) (.agg [])),
      (5, .chanB (.eql (.bits .and .u8 (.shr (.var 1) 1) (.lit 1)) (.lit 1)) (.agg [])),
      (6, .chanB (.eql (.bits .and .u8 (.shr (.var 1) 2) (.lit 1)) (.lit 1)) (.agg [])),
      (7, .chanB (.eql (.bits .and .u8 (.shr (.var 1) 3) (.lit 1)) (.lit 1)) (.agg [])),
      (8, .chanB (.eql (.bits .and .u8 (.shr (.var 1) 4) (.lit 1)) (.lit 1)) (.agg [])),
      (9, .chanB (.eql (.bits .and .u8 (.shr (.var 1) 5) (.lit 1)) (.lit 1)) (.agg [])),
      (10, .chanB (.eql (.bits .and .u8 (.shr (.var 1) 6) (.lit 1)) (.lit 1)) (.agg [])),
      (11, .chanB (.eql (.bits .and .u8 (.shr (.var 1) 7) (.lit 1)) (.lit 1)) (.agg []))]
    groups := []
    next := 12 }

def u20 : Cut := { fn := 4, depth := 0, blk := 4, t := t20, ni := 4, nb := 1, nr := 0, key := [(7, 1), (10, 7)], sig := [] }
def g20 : Ctx := { rng := [(0, 255), (0, 255), (0, 8), (0, 7)], asm := [] }

def t21 : Tmpl :=
  { fr := (frLoop Try.prog 4 0 [(0, (.int .u8 (.var 0))), (1, (.int .u8 (.var 1))), (2, (.bool (.var 0))), (6, (T false)), (7, (I 2))])
    callers := []
    blocks := []
    groups := []
    next := 0 }

def u21 : Cut := { fn := 4, depth := 0, blk := 0, t := t21, ni := 2, nb := 1, nr := 0, key := [(7, 2)], sig := [] }
def g21 : Ctx := { rng := [(0, 255), (0, 255)], asm := [] }

def t22 : Tmpl :=
  { fr := (frLoop Try.prog 4 2 [(0, (.int .u8 (.var 0))), (1, (.int .u8 (.var 1))), (2, (.bool (.var 0))), (6, (T false)), (7, (I 2)), (8, (.ptr 0 (.lit 0))), (9, (I 4))])
    callers := []
    blocks := [(0, .cells [(.slice 1 (.lit 0) (.lit 8) (.lit 8))] 99),
      (1, .cells [(.chan 2), (.chan 3), (.chan 4), (.chan 5), (.chan 6), (.chan 7), (.chan 8), (.chan 9)] 100),
      (2, .chanB (.eql (.bits .and .u8 (.shr (.var 1) 0) (.lit 1)) (.lit 1)) (.agg [])),
      (3, .chanB (.eql (.bits .and .u8 (.shr (.var 1) 1) (.lit 1)) (.lit 1)) (.agg [])),
      (4, .chanB (.eql (.bits .and .u8 (.shr (.var 1) 2) (.lit 1)) (.lit 1)) (.agg [])),
      (5, .chanB (.eql (.bits .and .u8 (.shr (.var 1) 3) (.lit 1)) (.lit 1)) (.agg [])),
      (6, .chan 1 []),
      (7, .chan 1 []),
      (8, .chan 1 []),
      (9, .chan 1 [])]
    groups := []
    next := 10 }

def u22 : Cut := { fn := 4, depth := 0, blk := 2, t := t22, ni := 2, nb := 1, nr := 0, key := [(7, 2), (9, 4)], sig := [] }
def g22 : Ctx := { rng := [(0, 255), (0, 255)], asm := [] }

def t23 : Tmpl :=
  { fr := (frLoop Try.prog 4 2 [(0, (.int .u8 (.var 0))), (1, (.int .u8 (.var 1))), (2, (.bool (.var 0))), (6, (T false)), (7, (I 2)), (8, (.ptr 0 (.lit 0))), (9, (I 8))])
    callers := []
    blocks := [(0, .cells [(.slice 1 (.lit 0) (.lit 8) (.lit 8))] 99),
      (1, .cells [(.chan 2), (.chan 3), (.chan 4), (.chan 5), (.chan 6), (.chan 7), (.chan 8), (.chan 9)] 100),
      (2, .chanB (.eql (.bits .and .u8 (.shr (.var 1) 0) (.lit 1)) (.lit 1)) (.agg [])),
      (3, .chanB (.eql (.bits .and .u8 (.shr (.var 1) 1) (.lit 1)) (.lit 1)) (.agg [])),
      (4, .chanB (.eql (.bits .and .u8 (.shr (.var 1) 2) (.lit 1)) (.lit 1)) (.agg [])),
      (5, .chanB (.eql (.bits .and .u8 (.shr (.var 1) 3) (.lit 1)) (.lit 1)) (.agg [])),
      (6, .chanB (.eql (.bits .and .u8 (.shr (.var 1) 4) (.lit 1)) (.lit 1)) (.agg [])),
      (7, .chanB (.eql (.bits .and .u8 (.shr (.var 1) 5) (.lit 1)) (.lit 1)) (.agg [])),
      (8, .chanB (.eql (.bits .and .u8 (.shr (.var 1) 6) (.lit 1)) (.lit 1)) (.agg [])),
      (9, .chanB (.eql (.bits .and .u8 (.shr (.var 1) 7) (.lit 1)) (.lit 1)) (.agg []))]
    groups := []
    next := 10 }

def u23 : Cut := { fn := 4, depth := 0, blk := 2, t := t23, ni := 2, nb := 1, nr := 0, key := [(7, 2), (9, 8)], sig := [] }
def g23 : Ctx := { rng := [(0, 255), (0, 255)], asm := [] }

def t24 : Tmpl :=
  { fr := (frLoop Try.prog 4 4 [(0, (.int .u8 (.var 0))), (1, (.int .u8 (.var 1))), (2, (.bool (.var 0))), (6, (T false)), (7, (I 2)), (8, (.ptr 0 (.lit 0))), (10, (I 0)), (13, (.ptr 1 (.lit 0))), (14, (T true)), (15, (.int .i64 (.var 2)))])
    callers := []
    blocks := [(0, .cells [(.slice 2 (.lit 0) (.lit 8) (.lit 8))] 99),
      (1, .cells [(.ptr 3 (.lit 0)), (I 0), .nilSlice] 93),
      (2, .cells [(.chan 4), (.chan 5), (.chan 6), (.chan 7), (.chan 8), (.chan 9), (.chan 10), (.chan 11)] 100),
      (3, .cells [.nilFunc, (.ptr 0 (.lit 0)), (.int .i64 (.var 3)), (.bool (.var 0))] 95),
      (4, .chanB (.eql (.bits .and .u8 (.shr (.var 1) 0) (.lit 1)) (.lit 1)) (.agg [])),
      (5, .chanB (.eql (.bits .and .u8 (.shr (.var 1) 1) (.lit 1)) (.lit 1)) (.agg [])),
      (6, .chanB (.eql (.bits .and .u8 (.shr (.var 1) 2) (.lit 1)) (.lit 1)) (.agg [])),
      (7, .chanB (.eql (.bits .and .u8 (.shr (.var 1) 3) (.lit 1)) (.lit 1)) (.agg [])),
      (8, .chanB (.eql (.bits .and .u8 (.shr (.var 1) 4) (.lit 1)) (.lit 1)) (.agg [])),
      (9, .chanB (.eql (.bits .and .u8 (.shr (.var 1) 5) (.lit 1)) (.lit 1)) (.agg [])),
      (10, .chanB (.eql (.bits .and .u8 (.shr (.var 1) 6) (.lit 1)) (.lit 1)) (.agg [])),
      (11, .chanB (.eql (.bits .and .u8 (.shr (.var 1) 7) (.lit 1)) (.lit 1)) (.agg []))]
    groups := []
    next := 12 }

def u24 : Cut := { fn := 4, depth := 0, blk := 4, t := t24, ni := 4, nb := 1, nr := 0, key := [(7, 2), (10, 0)], sig := [] }
def g24 : Ctx := { rng := [(0, 255), (0, 255), (0, 8), (0, 7)], asm := [] }

def t25 : Tmpl :=
  { fr := (frLoop Try.prog 4 4 [(0, (.int .u8 (.var 0))), (1, (.int .u8 (.var 1))), (2, (.bool (.var 0))), (6, (T false)), (7, (I 2)), (8, (.ptr 0 (.lit 0))), (10, (I 1)), (13, (.ptr 1 (.lit 0))), (14, (T true)), (15, (.int .i64 (.var 2)))])
    callers := []
    blocks := [(0, .cells [(.slice 2 (.lit 0) (.lit 8) (.lit 8))] 99),
      (1, .cells [(.ptr 3 (.lit 0)), (I 0), .nilSlice] 93),
      (2, .cells [(.chan 4), (.chan 5), (.chan 6), (.chan 7), (.chan 8), (.chan 9), (.chan 10), (.chan 11)] 100),
      (3, .cells [.nilFunc, (.ptr 0 (.lit 0)), (.int .i64 (.var 3)), (.bool (.var 0))] 95),
      (4, .chanB (.eql (.bits .and .u8 (.shr (.var 1) 0) (.lit 1)) (.lit 1)) (.agg [])),
      (5, .chanB (.eql (.bits .and .u8 (.shr (.var 1) 1) (.lit 1)) (.lit 1)) (.agg [])),
      (6, .chanB (.eql (.bits .and .u8 (.shr (.var 1) 2) (.lit 1)) (.lit 1)) (.agg [])),
      (7, .chanB (.eql (.bits .and .u8 (.shr (.var 1) 3) (.lit 1)) (.lit 1)) (.agg [])),
      (8, .chanB (.eql (.bits .and .u8 (.shr (.var 1) 4) (.lit 1)) (.lit 1)) (.agg [])),
      (9, .chanB (.eql (.bits .and .u8 (.shr (.var 1) 5) (.lit 1)) (.lit 1)) (.agg [])),
      (10, .chanB (.eql (.bits .and .u8 (.shr (.var 1) 6) (.lit 1)) (.lit 1)) (.agg [])),
      (11, .chanB (.eql (.bits .and .u8 (.shr (.var 1) 7) (.lit 1)) (.lit 1)) (.agg []))]
    groups := []
    next := 12 }

def u25 : Cut := { fn := 4, depth := 0, blk := 4, t := t25, ni := 4, nb := 1, nr := 0, key := [(7, 2), (10, 1)], sig := [] }
def g25 : Ctx := { rng := [(0, 255), (0, 255), (0, 8), (0, 7)], asm := [] }

def t26 : Tmpl :=
  { fr := (frLoop Try.prog 4 4 [(0, (.int .u8 (.var 0))), (1, (.int .u8 (.var 1))), (2, (.bool (.var 0))), (6, (T false)), (7, (I 2)), (8, (.ptr 0 (.lit 0))), (10, (I 2)), (13, (.ptr 1 (.lit 0))), (14, (T true)), (15, (.int .i64 (.var 2)))])
    callers := []
    blocks := [(0, .cells [(.slice 2 (.lit 0) (.lit 8) (.lit 8))] 99),
      (1, .cells [(.ptr 3 (.lit 0)), (I 0), .nilSlice] 93),
      (2, .cells [(.chan 4), (.chan 5), (.chan 6), (.chan 7), (.chan 8), (.chan 9), (.chan 10), (.chan 11)] 100),
      (3, .cells [.nilFunc, (.ptr 0 (.lit 0)), (.int .i64 (.var 3)), (.bool (.var 0))] 95),
      (4, .chanB (.eql (.bits .and .u8 (.shr (.var 1) 0) (.lit 1)) (.lit 1)) (.agg [])),
      (5, .chanB (.eql (.bits .and .u8 (.shr (.var 1) 1) (.lit 1)) (.lit 1)) (.agg [])),
      (6, .chanB (.eql (.bits .and .u8 (.shr (.var 1) 2) (.lit 1)) (.lit 1)) (.agg [])),
      (7, .chanB (.eql (.bits .and .u8 (.shr (.var 1) 3) (.lit 1)) (.lit 1)) (.agg [])),
      (8, .chanB (.eql (.bits .and .u8 (.shr (.var 1) 4) (.lit 1)) (.lit 1)) (.agg [])),
      (9, .chanB (.eql (.bits .and .u8 (.shr (.var 1) 5) (.lit 1)) (.lit 1)) (.agg [])),
      (10, .chanB (.eql (.bits .and .u8 (.shr (.var 1) 6) (.lit 1)) (.lit 1)) (.agg [])),
      (11, .chanB (.eql (.bits .and .u8 (.shr (.var 1) 7) (.lit 1)) (.lit 1)) (.agg []))]
    groups := []
    next := 12 }

def u26 : Cut := { fn := 4, depth := 0, blk := 4, t := t26, ni := 4, nb := 1, nr := 0, key := [(7, 2), (10, 2)], sig := [] }
def g26 : Ctx := { rng := [(0, 255), (0, 255), (0, 8), (0, 7)], asm := [] }

def t27 : Tmpl :=
  { fr := (frLoop Try.prog 4 4 [(0, (.int .u8 (.var 0))), (1, (.int .u8 (.var 1))), (2, (.bool (.var 0))), (6, (T false)), (7, (I 2)), (8, (.ptr 0 (.lit 0))), (10, (I 3)), (13, (.ptr 1 (.lit 0))), (14, (T true)), (15, (.int .i64 (.var 2)))])
    callers := []
    blocks := [(0, .cells [(.slice 2 (.lit 0) (.lit 8) (.lit 8))] 99),
      (1, .cells [(.ptr 3 (.lit 0)), (I 0), .nilSlice] 93),
      (2, .cells [(.chan 4), (.chan 5), (.chan 6), (.chan 7), (.chan 8), (.chan 9), (.chan 10), (.chan 11)] 100),
      (3, .cells [.nilFunc, (.ptr 0 (.lit 0)), (.int .i64 (.var 3)), (.bool (.var 0))] 95),
      (4, .chanB (.eql (.bits .and .u8 (.shr (.var 1) 0) (.lit 1)) (.lit 1)) (.agg [])),
      (5, .chanB (.eql (.bits .and .u8 (.shr (.var 1) 1) (.lit 1)) (.lit 1)) (.agg [])),
      (6, .chanB (.eql (.bits .and .u8 (.shr (.var 1) 2) (.lit 1)) (.lit 1)) (.agg [])),
      (7, .chanB (.eql (.bits .and .u8 (.shr (.var 1) 3) (.lit 1)) (.lit 1)) (.agg [])),
      (8, .chanB (.eql (.bits .and .u8 (.shr (.var 1) 4) (.lit 1)) (.lit 1)) (.agg [])),
      (9, .chanB (.eql (.bits .and .u8 (.shr (.var 1) 5) (.lit 1)) (.lit 1)) (.agg [])),
      (10, .chanB (.eql (.bits .and .u8 (.shr (.var 1) 6) (.lit 1)) (.lit 1)) (.agg [])),
      (11, .chanB (.eql (.bits .and .u8 (.shr (.var 1) 7) (.lit 1)) (.lit 1)) (.agg []))]
    groups := []
    next := 12 }

def u27 : Cut := { fn := 4, depth := 0, blk := 4, t := t27, ni := 4, nb := 1, nr := 0, key := [(7, 2), (10, 3)], sig := [] }
def g27 : Ctx := { rng := [(0, 255), (0, 255), (0, 8), (0, 7)], asm := [] }

def t28 : Tmpl :=
  { fr := (frLoop Try.prog 4 4 [(0, (.int .u8 (.var 0))), (1, (.int .u8 (.var 1))), (2, (.bool (.var 0))), (6, (T false)), (7, (I 2)), (8, (.ptr 0 (.lit 0))), (10, (I 4)), (13, (.ptr 1 (.lit 0))), (14, (T true)), (15, (.int .i64 (.var 2)))])
    callers := []
    blocks := [(0, .cells [(.slice 2 (.lit 0) (.lit 8) (.lit 8))] 99),
      (1, .cells [(.ptr 3 (.lit 0)), (I 0), .nilSlice] 93),
      (2, .cells [(.chan 4), (.chan 5), (.chan 6), (.chan 7), (.chan 8), (.chan 9), (.chan 10), (.chan 11)] 100),
      (3, .cells [.nilFunc, (.ptr 0 (.lit 0)), (.int .i64 (.var 3)), (.bool (.var 0))] 95),
      (4, .chanB (.eql (.bits .and .u8 (.shr (.var 1) 0) (.lit 1)) (.lit 1)) (.agg [])),
      (5, .chanB (.eql (.bits .and .u8 (.shr (.var 1) 1) (.lit 1)) (.lit 1)) (.agg [])),
      (6, .chanB (.eql (.bits .and .u8 (.shr (.var 1) 2) (.lit 1)) (.lit 1)) (.agg [])),
      (7, .chanB (.eql (.bits .and .u8 (.shr (.var 1) 3) (.lit 1)) (.lit 1)) (.agg [])),
      (8, .chanB (.eql (.bits .and .u8 (.shr (.var 1) 4) (.lit 1)) (.lit 1)) (.agg [])),
      (9, .chanB (.eql (.bits .and .u8 (.shr (.var 1) 5) (.lit 1)) (.lit 1)) (.agg [])),
      (10, .chanB (.eql (.bits .and .u8 (.shr (.var 1) 6) (.lit 1)) (.lit 1)) (.agg [])),
      (11, .chanB (.eql (.bits .and .u8 (.shr (.var 1) 7) (.lit 1)) (.lit 1)) (.agg []))]
    groups := []
    next := 12 }

def u28 : Cut := { fn := 4, depth := 0, blk := 4, t := t28, ni := 4, nb := 1, nr := 0, key := [(7, 2), (10, 4)], sig := [] }
def g28 : Ctx := { rng := [(0, 255), (0, 255), (0, 8), (0, 7)], asm := [] }

def t29 : Tmpl :=
  { fr := (frLoop Try.prog 4 4 [(0, (.int .u8 (.var 0))), (1, (.int .u8 (.var 1))), (2, (.bool (.var 0))), (6, (T false)), (7, (I 2)), (8, (.ptr 0 (.lit 0))), (10, (I 5)), (13, (.ptr 1 (.lit 0))), (14, (T true)), (15, (.int .i64 (.var 2)))])
    callers := []
    blocks := [(0, .cells [(.slice 2 (.lit 0) (.lit 8) (.lit 8))] 99),
      (1, .cells [(.ptr 3 (.lit 0)), (I 0), .nilSlice] 93),
      (2, .cells [(.chan 4), (.chan 5), (.chan 6), (.chan 7), (.chan 8), (.chan 9), (.chan 10), (.chan 11)] 100),
      (3, .cells [.nilFunc, (.ptr 0 (.lit 0)), (.int .i64 (.var 3)), (.bool (.var 0))] 95),
      (4, .chanB (.eql (.bits .and .u8 (.shr (.var 1) 0) (.lit 1)) (.lit 1)) (.agg [])),
      (5, .chanB (.eql (.bits .and .u8 (.shr (.var 1) 1) (.lit 1)) (.lit 1)) (.agg [])),
      (6, .chanB (.eql (.bits .and .u8 (.shr (.var 1) 2) (.lit 1)) (.lit 1)) (.agg [])),
      (7, .chanB (.eql (.bits .and .u8 (.shr (.var 1) 3) (.lit 1)) (.lit 1)) (.agg [])),
      (8, .chanB (.eql (.bits .and .u8 (.shr (.var 1) 4) (.lit 1)) (.lit 1)) (.agg [])),
      (9, .chanB (.eql (.bits .and .u8 (.shr (.var 1) 5) (.lit 1)) (.lit 1)) (.agg [])),
      (10, .chanB (.eql (.bits .and .u8 (.shr (.var 1) 6) (.lit 1)) (.lit 1)) (.agg [])),
      (11, .chanB (.eql (.bits .and .u8 (.shr (.var 1) 7) (.lit 1)) (.lit 1)) (.agg []))]
    groups := []
    next := 12 }

def u29 : Cut := { fn := 4, depth := 0, blk := 4, t := t29, ni := 4, nb := 1, nr := 0, key := [(7, 2), (10, 5)], sig := [] }
def g29 : Ctx := { rng := [(0, 255), (0, 255), (0, 8), (0, 7)], asm := [] }

def t30 : Tmpl :=
  { fr := (frLoop Try.prog 4 4 [(0, (.int .u8 (.var 0))), (1, (.int .u8 (.var 1))), (2, (.bool (.var 0))), (6, (T false)), (7, (I 2)), (8, (.ptr 0 (.lit 0))), (10, (I 6)), (13, (.ptr 1 (.lit 0))), (14, (T true)), (15, (.int .i64 (.var 2)))])
    callers := []
    blocks := [(0, .cells [(.slice 2 (.lit 0) (.lit 8) (.lit 8))] 99),
      (1, .cells [(.ptr 3 (.lit 0)), (I 0), .nilSlice] 93),
      (2, .cells [(.chan 4), (.chan 5), (.chan 6), (.chan 7), (.chan 8), (.chan 9), (.chan 10), (.chan 11)] 100),
      (3, .cells [.nilFunc, (.ptr 0 (.lit 0)), (.int .i64 (.var 3)), (.bool (.var 0))] 95),
      (4, .chanB (.eql (.bits .and .u8 (.shr (.var 1) 0) (.lit 1)) (.lit 1)) (.agg [])),
      (5, .chanB (.eql (.bits .and .u8 (.shr (.var 1) 1) (.lit 1)) (.lit 1)) (.agg [])),
      (6, .chanB (.eql (.bits .and .u8 (.shr (.var 1) 2) (.lit 1)) (.lit 1)) (.agg [])),
      (7, .chanB (.eql (.bits .and .u8 (.shr (.var 1) 3) (.lit 1)) (.lit 1)) (.agg [])),
      (8, .chanB (.eql (.bits .and .u8 (.shr (.var 1) 4) (.lit 1)) (.lit 1)) (.agg [])),
      (9, .chanB (.eql (.bits .and .u8 (.shr (.var 1) 5) (.lit 1)) (.lit 1)) (.agg [])),
      (10, .chanB (.eql (.bits .and .u8 (.shr (.var 1) 6) (.lit 1)) (.lit 1)) (.agg [])),
      (11, .chanB (.eql (.bits .and .u8 (.shr (.var 1) 7) (.lit 1)) (.lit 1)) (.agg []))]
    groups := []
    next := 12 }

def u30 : Cut := { fn := 4, depth := 0, blk := 4, t := t30, ni := 4, nb := 1, nr := 0, key := [(7, 2), (10, 6)], sig := [] }
def g30 : Ctx := { rng := [(0, 255), (0, 255), (0, 8), (0, 7)], asm := [] }

def t31 : Tmpl :=
  { fr := (frLoop Try.prog 4 4 [(0, (.int .u8 (.var 0))), (1, (.int .u8 (.var 1))), (2, (.bool (.var 0))), (6, (T false)), (7, (I 2)), (8, (.ptr 0 (.lit 0))), (10, (I 7)), (13, (.ptr 1 (.lit 0))), (14, (T true)), (15, (.int .i64 (.var 2)))])
    callers := []
    blocks := [(0, .cells [(.slice 2 (.lit 0) (.lit 8) (.lit 8))] 99),
      (1, .cells [(.ptr 3 (.lit 0)), (I 0), .nilSlice] 93),
      (2, .cells [(.chan 4), (.chan 5), (.chan 6), (.chan 7), (.chan 8), (.chan 9), (.chan 10), (.chan 11)] 100),
      (3, .cells [.nilFunc, (.ptr 0 (.lit 0)), (.int .i64 (.var 3)), (.bool (.var 0))] 95),
      (4, .chanB (.eql (.bits .and .u8 (.shr (.var 1) 0) (.lit 1)) (.lit 1)) (.agg [])),
      (5, .chanB (.eql (.bits .and .u8 (.shr (.var 1) 1) (.lit 1)) (.lit 1)) (.agg [])),
      (6, .chanB (.eql (.bits .and .u8 (.shr (.var 1) 2) (.lit 1)) (.lit 1)) (.agg [])),
      (7, .chanB (.eql (.bits .and .u8 (.shr (.var 1) 3) (.lit 1)) (.lit 1)) (.agg [])),
      (8, .chanB (.eql (.bits .and .u8 (.shr (.var 1) 4) (.lit 1)) (.lit 1)) (.agg [])),
      (9, .chanB (.eql (.bits .and .u8 (.shr (.var 1) 5) (.lit 1)) (.lit 1)) (.agg [])),
      (10, .chanB (.eql (.bits .and .u8 (.shr (.var 1) 6) (.lit 1)) (.lit 1)) (.agg [])),
      (11, .chanB (.eql (.bits .and .u8 (.shr (.var 1) 7) (.lit 1)) (.lit 1)) (.agg []))]
    groups := []
    next := 12 }

def u31 : Cut := { fn := 4, depth := 0, blk := 4, t := t31, ni := 4, nb := 1, nr := 0, key := [(7, 2), (10, 7)], sig := [] }
def g31 : Ctx := { rng := [(0, 255), (0, 255), (0, 8), (0, 7)], asm := [] }

def t32 : Tmpl :=
  { fr := (frLoop Try.prog 4 0 [(0, (.int .u8 (.var 0))), (1, (.int .u8 (.var 1))), (2, (.bool (.var 0))), (6, (T false)), (7, (I 3))])
    callers := []
    blocks := []
    groups := []
    next := 0 }

def u32 : Cut := { fn := 4, depth := 0, blk := 0, t := t32, ni := 2, nb := 1, nr := 0, key := [(7, 3)], sig := [] }
def g32 : Ctx := { rng := [(0, 255), (0, 255)], asm := [] }

def cuts : List ACut := [{ u := u0, g := g0, rank := 12 }, { u := u1, g := g1, rank := 11 }, { u := u2, g := g2, rank := 10, mv := some (2, 8) }, { u := u3, g := g3, rank := 10, mv := some (2, 8) }, { u := u4, g := g4, rank := 10, mv := some (2, 8) }, { u := u5, g := g5, rank := 10, mv := some (2, 8) }, { u := u6, g := g6, rank := 10, mv := some (2, 8) }, { u := u7, g := g7, rank := 10, mv := some (2, 8) }, { u := u8, g := g8, rank := 10, mv := some (2, 8) }, { u := u9, g := g9, rank := 10, mv := some (2, 8) }, { u := u10, g := g10, rank := 9 }, { u := u11, g := g11, rank := 8 }, { u := u12, g := g12, rank := 7 }, { u := u13, g := g13, rank := 6, mv := some (2, 8) }, { u := u14, g := g14, rank := 6, mv := some (2, 8) }, { u := u15, g := g15, rank := 6, mv := some (2, 8) }, { u := u16, g := g16, rank := 6, mv := some (2, 8) }, { u := u17, g := g17, rank := 6, mv := some (2, 8) }, { u := u18, g := g18, rank := 6, mv := some (2, 8) }, { u := u19, g := g19, rank := 6, mv := some (2, 8) }, { u := u20, g := g20, rank := 6, mv := some (2, 8) }, { u := u21, g := g21, rank := 5 }, { u := u22, g := g22, rank := 4 }, { u := u23, g := g23, rank := 3 }, { u := u24, g := g24, rank := 2, mv := some (2, 8) }, { u := u25, g := g25, rank := 2, mv := some (2, 8) }, { u := u26, g := g26, rank := 2, mv := some (2, 8) }, { u := u27, g := g27, rank := 2, mv := some (2, 8) }, { u := u28, g := g28, rank := 2, mv := some (2, 8) }, { u := u29, g := g29, rank := 2, mv := some (2, 8) }, { u := u30, g := g30, rank := 2, mv := some (2, 8) }, { u := u31, g := g31, rank := 2, mv := some (2, 8) }, { u := u32, g := g32, rank := 1 }]
def top : Nat := 13

end
end Go.Proofs.Ytgbdokemijlgeaa.taskParks
