/- The plan for the law SafeApart: configurations at the ends of loops. Definitions alone. -/
import Derived.Test.YtmmehhibkpfghaaChecked
import Derived.Test.YtmmehhibkpfghaaEv6
import Derived.KernelRfl
namespace Go.Proofs.Ytmmehhibkpfghaa.safeApart
open Go Go.Ev
noncomputable section

def shape : List (Option IntKind) := [some .u8, none]
def t0 : Tmpl :=
  { fr := (frLoop Try.prog 3 0 [(0, (.int .u8 (.var 0))), (4, (T false)), (5, (.ptr 0 (.lit 0))), (6, (.ptr 1 (.lit 0))), (7, (.int .i64 (.var 1)))])
    callers := []
    blocks := [(0, .cells [(I 3), (I 1), (I 0), (.ptr 2 (.lit 0)), (.ptr 3 (.lit 0)), (.int .i32 (.lit 0)), (.int .u32 (.lit 0)), .nilSlice] 44),
      (1, .cells [(.ptr 4 (.lit 0)), (I 0), (.slice 5 (.lit 0) (.lit 2) (.lit 2))] 61),
      (2, .cells [(.iface 109 (.slice 6 (.lit 0) (.lit 21) (.lit 21))), (.int .i64 (.var 2))] 73),
      (3, .cells [(.slice 7 (.lit 0) (.lit 3) (.lit 3))] 93),
      (4, .cells [(.func (.func 38) [] [(.ptr 8 (.lit 0)), (.ptr 9 (.lit 0)), (.ptr 10 (.lit 0)), (.ptr 11 (.lit 0))]), .nilPtr, (I 0), (T false)] 63),
      (5, .opn [(.func (.func 44) [] []), (.func (.func 65) [] [(.ptr 12 (.lit 0))])] 28 1),
      (6, .cells [(U 0), (U 0), (U 1), (U 0), (U 0), (U 0), (U 0), (U 1), (U 0), (U 0), (U 0), (U 0), (U 0), (U 2), (U 0), (U 0), (U 0), (U 0), (U 0), (U 1), (U 0)] 30),
      (7, .cells [(.chan 13), (.chan 14), (.chan 15)] 90),
      (8, .cells [(.ptr 2 (.lit 0))] 33),
      (9, .cells [(I 13)] 3),
      (10, .cells [(U 1)] 30),
      (11, .cells [(U 0)] 30),
      (12, .cells [(.func (.func 42) [] [(.ptr 16 (.lit 0)), (.ptr 17 (.lit 0)), (.ptr 18 (.lit 0)), (.ptr 19 (.lit 0))])] 89),
      (13, .chan 1 []),
      (14, .chan 1 []),
      (15, .chan 1 []),
      (16, .cells [(.ptr 2 (.lit 0))] 33),
      (17, .cells [(I 13)] 3),
      (18, .cells [(U 1)] 30),
      (19, .cells [(U 0)] 30)]
    groups := []
    next := 20 }

def u0 : Cut := { fn := 3, depth := 0, blk := 0, t := t0, ni := 3, nb := 0, nr := 0, key := [], sig := [], top := [10] }
def g0 : Ctx := { rng := [(0, 255), (0, 40), ((-9223372036854775808), 9223372036854775807)], asm := [] }

def t1 : Tmpl :=
  { fr := (frLoop Try.prog 3 2 [(0, (.int .u8 (.var 0))), (4, (T false)), (5, (.ptr 0 (.lit 0))), (9, (.int .i64 (.var 1)))])
    callers := []
    blocks := [(0, .cells [(I 3), (I 1), (I 0), (.ptr 1 (.lit 0)), (.ptr 2 (.lit 0)), (.int .i32 (.lit 0)), (.int .u32 (.lit 0)), .nilSlice] 44),
      (1, .cells [(.iface 109 (.slice 3 (.lit 0) (.lit 21) (.lit 21))), (.int .i64 (.var 2))] 73),
      (2, .cells [(.slice 4 (.lit 0) (.lit 3) (.lit 3))] 93),
      (3, .cells [(U 0), (U 0), (U 1), (U 0), (U 0), (U 0), (U 0), (U 1), (U 0), (U 0), (U 0), (U 0), (U 0), (U 0), (U 0), (U 0), (U 0), (U 0), (U 0), (U 1), (U 0)] 30),
      (4, .cells [(.chan 5), (.chan 6), (.chan 7)] 90),
      (5, .chan 1 []),
      (6, .chan 1 []),
      (7, .chan 1 [])]
    groups := []
    next := 8 }

def u1 : Cut := { fn := 3, depth := 0, blk := 2, t := t1, ni := 3, nb := 0, nr := 0, key := [], sig := [], top := [19] }
def g1 : Ctx := { rng := [(0, 255), (0, 40), ((-9223372036854775808), 9223372036854775807)], asm := [] }

def cuts : List ACut := [{ u := u0, g := g0, rank := 1, mv := some (1, 40) }, { u := u1, g := g1, rank := 1, mv := some (1, 40) }]
def top : Nat := 2

end
end Go.Proofs.Ytmmehhibkpfghaa.safeApart
