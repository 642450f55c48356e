/- Ev, part A: an abstract evaluator of the model's code, over values whose numbers may be open and whose blocks are numbered from 0. Definitions alone. -/
import Derived.Orders
set_option linter.unusedVariables false
namespace Go.Ev
noncomputable section
inductive Tr (α:Type) where
 | nil
 | node (l:Tr α) (v:Option α) (r:Tr α)
namespace Tr
variable {α:Type}
def get:Tr α→Nat→Option α:=fun t n=>@Tr.rec α (fun _=>Nat→Option α) (fun _=>none)
 (fun _ v _ ihl ihr n=>@Bool.rec (fun _=>Option α) (@Bool.rec (fun _=>Option α) (ihr (Nat.sub (Nat.div n 2) 1)) (ihl (Nat.div n 2)) (Nat.beq (Nat.mod n 2) 1)) v (Nat.beq n 0)) t n
def putF (x:Option α) (f:Nat) (t:Tr α) (n:Nat):Tr α:=@Nat.rec (fun _=>Tr α→Nat→Tr α) (fun t _=>t)
 (fun _ ih t n=>@Tr.rec α (fun _=>Nat→Tr α)
  (fun n=>@Bool.rec (fun _=>Tr α) (@Bool.rec (fun _=>Tr α) (.node .nil none (ih .nil (Nat.sub (Nat.div n 2) 1))) (.node (ih .nil (Nat.div n 2)) none .nil) (Nat.beq (Nat.mod n 2) 1)) (.node .nil x .nil) (Nat.beq n 0))
  (fun l v r _ _ n=>@Bool.rec (fun _=>Tr α) (@Bool.rec (fun _=>Tr α) (.node l v (ih r (Nat.sub (Nat.div n 2) 1))) (.node (ih l (Nat.div n 2)) v r) (Nat.beq (Nat.mod n 2) 1)) (.node l x r) (Nat.beq n 0)) t n) f t n
def put (t:Tr α) (n:Nat) (x:Option α):Tr α:=putF x (n+1) t n
def set (t:Tr α) (n:Nat) (x:α):Tr α:=t.put n (some x)
end Tr
inductive SI where
 | lit (n:Int)
 | var (i:Nat)
 | add (a b:SI)
 | sub (a b:SI)
 | mul (a b:SI)
 | quo (a b:SI)
 | rem (a b:SI)
 | wrap (k:IntKind) (a:SI)
 | bits (o:BinOp) (k:IntKind) (a b:SI)
 | shl (k:IntKind) (a:SI) (n:Nat)
 | shr (a:SI) (n:Nat)
 | sel (k:IntKind) (a i:SI)   -- a number out of a row
 | row (i:Nat)                  -- a row that is open
 | con (v:Int)                  -- a row of one number
 | upd (a i v:SI)               -- a row with another number at a place
 | app (a n b o:SI)             -- a row,and from a place on another one (from a place of its own on)
 | rmap (k:IntKind) (a:SI) (o:Int)   -- a row's numbers,as of a kind,from a place on
 | cnt (c:Nat) (a d:SI)       -- how many of a row's first d pairs are of kind c
 deriving DecidableEq
inductive SB where
 | lit (b:Bool)
 | var (i:Nat)
 | lss (a b:SI)
 | eql (a b:SI)
 | not (a:SB)
 | iff (a b:SB)
 deriving DecidableEq
structure Env where
 loc:Nat→Option Nat
 cap:Nat→Nat
 int:Nat→Int
 bool:Nat→Bool
 row:Nat→Int→Int
 val:Nat→Value
def bitsDen (o:BinOp) (k:IntKind) (x y:Int):Int :=
 let a:=BitVec.ofInt k.bits x
 let b:=BitVec.ofInt k.bits y
 match o with
 | .and=>k.wrap (a &&& b).toNat
 | .or=>k.wrap (a ||| b).toNat
 | .xor=>k.wrap (a ^^^ b).toNat
 | _=>k.wrap (a &&& ~~~b).toNat
def cntP (c:Nat) (f g:Int):Int:=match c with
 | 0=>if f=1 then 0 else 1
 | u+1=>if f=1 then (if g=(u:Int) then 1 else 0) else 0
def cntN (c:Nat) (r:Int→Int):Nat→Int
 | 0=>0
 | n+1=>cntN c r n+cntP c (IntKind.wrap .i64 (r ((n:Int)*2))) (IntKind.wrap .i64 (r ((n:Int)*2+1)))
mutual
def SI.den (E:Env):SI→Int
 | .lit n=>n
 | .var i=>E.int i
 | .add a b=>a.den E+b.den E
 | .sub a b=>a.den E-b.den E
 | .mul a b=>a.den E*b.den E
 | .quo a b=>(a.den E).tdiv (b.den E)
 | .rem a b=>(a.den E).tmod (b.den E)
 | .wrap k a=>k.wrap (a.den E)
 | .bits o k a b=>bitsDen o k (a.den E) (b.den E)
 | .shl k a n=>k.wrap (a.den E*2 ^ n)
 | .shr a n=>(a.den E).fdiv (2 ^ n)
 | .sel k a i=>k.wrap (a.cells E (i.den E))
 | .row _=>0
 | .con _=>0
 | .upd _ _ _=>0
 | .app _ _ _ _=>0
 | .rmap _ _ _=>0
 | .cnt c a d=>cntN c (fun j=>a.cells E j) (d.den E).toNat
def SI.cells (E:Env):SI→Int→Int
 | .row i,j=>E.row i j
 | .con v,_=>v
 | .upd a i v,j=>if j=i.den E then v.den E else a.cells E j
 | .app a n b o,j=>if j<n.den E then a.cells E j else b.cells E (j-n.den E+o.den E)
 | .rmap k a o,j=>k.wrap (a.cells E (j+o))
 | .lit _,_=>0
 | .var _,_=>0
 | .add _ _,_=>0
 | .sub _ _,_=>0
 | .mul _ _,_=>0
 | .quo _ _,_=>0
 | .rem _ _,_=>0
 | .wrap _ _,_=>0
 | .bits _ _ _ _,_=>0
 | .shl _ _ _,_=>0
 | .shr _ _,_=>0
 | .sel _ _ _,_=>0
 | .cnt _ _ _,_=>0
end
def SB.den (E:Env):SB→Bool
 | .lit b=>b
 | .var i=>E.bool i
 | .lss a b=>decide (a.den E<b.den E)
 | .eql a b=>a.den E == b.den E
 | .not a=>!a.den E
 | .iff a b=>a.den E == b.den E
structure Ctx where
 rng:List (Option (Int × Int))   -- (none: no bounds)
 asm:List (SB × Bool)
def rangeOf (k:IntKind):Int × Int:=(k.min,k.max)
def inRange (r:Int × Int) (k:IntKind):Bool:=decide (k.min≤r.1)&&decide (r.2≤k.max)
def SI.range (G:Ctx):SI→Option (Int × Int)
 | .lit n=>some (n,n)
 | .var i=>match G.rng[i]? with
  | some r=>r
  | none=>none
 | .add a b=>match a.range G,b.range G with
  | some x,some y=>some (x.1+y.1,x.2+y.2)
  | _,_=>none
 | .sub a b=>match a.range G,b.range G with
  | some x,some y=>some (x.1-y.2,x.2-y.1)
  | _,_=>none
 | .mul a (.lit c)=>match a.range G with
  | some x=>if 0≤c then some (x.1*c,x.2*c) else some (x.2*c,x.1*c)
  | none=>none
 | .rem a b=>match a.range G with
  | some x=>if 0≤x.1 then (match b.range G with
   | some y=>if 0<y.1 then some (0,min x.2 (y.2-1)) else some (0,x.2)
   | none=>some (0,x.2)) else none
  | none=>none
 | .quo a (.lit c)=>match a.range G with
  | some x=>if 0≤x.1∧0<c then some (0,x.2) else none
  | none=>none
 | .shr a n=>match a.range G with
  | some x=>some (x.1.fdiv (2 ^ n),x.2.fdiv (2 ^ n))
  | none=>none
 | .wrap k a=>match a.range G with
  | some x=>if inRange x k then some x else some (rangeOf k)
  | none=>some (rangeOf k)
 | .bits _ k _ _=>some (rangeOf k)
 | .shl k _ _=>some (rangeOf k)
 | .sel k _ _=>some (rangeOf k)
 | _=>none
def mkAdd:SI→SI→SI
 | .lit a,.lit b=>.lit (a+b)
 | .add x (.lit a),.lit b=>if a+b=0 then x else .add x (.lit (a+b))
 | x,.lit b=>if b=0 then x else .add x (.lit b)
 | .lit a,.add y (.lit b)=>if a+b=0 then y else .add y (.lit (a+b))
 | .lit a,y=>if a=0 then y else .add y (.lit a)
 | .add x (.lit a),.add y (.lit b)=>if a+b=0 then .add x y else .add (.add x y) (.lit (a+b))
 | .add x (.lit a),y=>.add (.add x y) (.lit a)
 | x,.add y (.lit b)=>.add (.add x y) (.lit b)
 | x,y=>.add x y
def mkSub:SI→SI→SI
 | .lit a,.lit b=>.lit (a-b)
 | x,.lit b=>mkAdd x (.lit (-b))
 | x,y=>if x=y then .lit 0 else .sub x y
def mkMul:SI→SI→SI
 | .lit a,.lit b=>.lit (a*b)
 | .add (.mul x (.lit a)) (.lit c),.lit b=>if b=1 then .add (.mul x (.lit a)) (.lit c) else .add (.mul x (.lit (a*b))) (.lit (c*b))
 | .add x (.lit c),.lit b=>if b=1 then .add x (.lit c) else .add (.mul x (.lit b)) (.lit (c*b))
 | .mul x (.lit a),.lit b=>.mul x (.lit (a*b))
 | x,.lit b=>if b=1 then x else .mul x (.lit b)
 | .lit a,y=>if a=1 then y else .mul y (.lit a)
 | x,y=>.mul x y
def wrapR (G:Ctx) (k:IntKind) (a:SI):SI:=match a.range G with
 | some r=>if inRange r k then a else .wrap k a
 | none=>.wrap k a
def mkWrap (G:Ctx) (k:IntKind):SI→SI
 | .lit n=>bif decide (0≤n)&&decide (n<128) then .lit n else .lit (k.wrap n)
 | .wrap l y=>if k.bits≤l.bits then wrapR G k y else wrapR G k (.wrap l y)
 | .sel l a i=>if k.bits<l.bits∨(k.bits=l.bits∧k≠l) then .sel k a i else wrapR G k (.sel l a i)
 | .sub (.wrap l (.add x y)) z=>if l=k∧x=z then wrapR G k y else if l=k∧y=z then wrapR G k x else wrapR G k (.sub (.wrap l (.add x y)) z)
 | a=>wrapR G k a
def mkBits (o:BinOp) (k:IntKind):SI→SI→SI
 | .lit a,.lit b=>.lit (bitsDen o k a b)
 | a,b=>.bits o k a b
def mkNot:SB→SB
 | .lit b=>.lit (!b)
 | .not a=>a
 | a=>.not a
def mkLss (G:Ctx) (a b:SI):SB :=
 match a.range G,b.range G with
 | some x,some y=>if x.2<y.1 then .lit true else if y.2≤x.1 then .lit false else .lss a b
 | _,_=>.lss a b
def offWrap (a b:SI):Bool :=
 match a with
 | .wrap k (.add x (.lit c))=>if x=b∧¬ c % (2 ^ k.bits:Int)=0 then true else false
 | _=>false
def mkEql (G:Ctx) (a b:SI):SB :=
 if a=b then .lit true else
 if offWrap a b||offWrap b a then .lit false else
 match a.range G,b.range G with
 | some x,some y=>if x.2<y.1 then .lit false else if y.2<x.1 then .lit false else if x.1=x.2∧y.1=y.2∧x.1=y.1 then .lit true else .eql a b
 | _,_=>.eql a b
def mkIff (a b:SB):SB :=
 match a,b with
 | .lit true,b=>b
 | .lit false,b=>mkNot b
 | a,.lit true=>a
 | a,.lit false=>mkNot a
 | a,b=>if a=b then .lit true else .iff a b
def findAsm (b:SB):List (SB × Bool)→Option Bool
 | []=>none
 | (c,t)::r=>if b=c then some t else findAsm b r
def SI.base:SI→SI × Int × Int
 | .add a (.lit k)=>(a.base.1,a.base.2.1,a.base.2.2+k)
 | .mul a (.lit k)=>if 0<k then (a.base.1,a.base.2.1*k,a.base.2.2*k) else (.mul a (.lit k),1,0)
 | a=>(a,1,0)
def hiB (x y:SI) (o:Option (Int × Int)) (d:Int) (r:Int × Int):Int × Int:=if y.base.1=x then (match o with
 | some q=>(r.1,min r.2 ((q.2+d-y.base.2.2) / y.base.2.1))
 | none=>r) else r
def loB (x y:SI) (o:Option (Int × Int)) (d:Int) (r:Int × Int):Int × Int:=if y.base.1=x then (match o with
 | some q=>(max r.1 (-((y.base.2.2-(q.1+d)) / y.base.2.1)),r.2)
 | none=>r) else r
def neB (x y:SI) (n:Int) (r:Int × Int):Int × Int:=if y.base.1=x then (if y.base.2.1*r.1+y.base.2.2=n then (r.1+1,r.2) else if y.base.2.1*r.2+y.base.2.2=n then (r.1,r.2-1) else r) else r
def tight1 (R:SI→Option (Int × Int)) (x:SI) (r:Int × Int):SB × Bool→Int × Int
 | (.lss a b,true)=>loB x b (R a) 1 (hiB x a (R b) (-1) r)
 | (.lss a b,false)=>hiB x b (R a) 0 (loB x a (R b) 0 r)
 | (.eql a b,true)=>loB x b (R a) 0 (hiB x b (R a) 0 (loB x a (R b) 0 (hiB x a (R b) 0 r)))
 | (.eql a (.lit n),false)=>neB x a n r
 | (.eql (.lit n) b,false)=>neB x b n r
 | _=>r
def tight (R:SI→Option (Int × Int)) (x:SI) (r:Int × Int):List (SB × Bool)→Int × Int
 | []=>r
 | p::l=>tight1 R x (tight R x r l) p
def gap1 (p q:SI):SB × Bool→Option (SI × SI × Int)
 | (.lss a b,true)=>some (a.base.1,b.base.1,a.base.2.2-b.base.2.2+1)
 | (.lss a b,false)=>some (b.base.1,a.base.1,b.base.2.2-a.base.2.2)
 | (.eql a b,true)=>if a.base.1=p∨b.base.1=q then some (a.base.1,b.base.1,a.base.2.2-b.base.2.2) else some (b.base.1,a.base.1,b.base.2.2-a.base.2.2)
 | _=>none
def unit1:SB × Bool→Bool
 | (.lss a b,_)=>decide (a.base.2.1=1)&&decide (b.base.2.1=1)
 | (.eql a b,_)=>decide (a.base.2.1=1)&&decide (b.base.2.1=1)
 | _=>false
def maxO (a b:Option Int):Option Int:=match a,b with
 | some x,some y=>some (max x y)
 | some x,none=>some x
 | none,y=>y
def gapL (x y:SI) (all:List (SB × Bool)) (more:SI→Option Int):List (SB × Bool)→Option Int
 | []=>none
 | f::r=>maxO (match gap1 x y f with
  | some (p,q,d)=>if p=x∧unit1 f then (if q=y then some d else (match more q with | some e=>some (d+e) | none=>none)) else none
  | none=>none) (gapL x y all more r)
def gap (l:List (SB × Bool)) (x y:SI):Option Int:=gapL x y l (fun z=>gapL z y l (fun _=>none) l) l
def isLitS:SI→Bool
 | .lit _=>true
 | _=>false
def diffOn (l:List (SB × Bool)) (a b:SI):Option Bool :=
 if a.base.2.1=b.base.2.1∧a.base.2.2=b.base.2.2∧a.base.2.1≠1 then (match gap l a.base.1 b.base.1 with
  | some d=>if 1≤d then some true else (match gap l b.base.1 a.base.1 with
   | some e=>if 0≤e then some false else none
   | none=>none)
  | none=>match gap l b.base.1 a.base.1 with
   | some e=>if 0≤e then some false else none
   | none=>none) else
 if isLitS a.base.1||isLitS b.base.1||decide (a.base.2.1≠1)||decide (b.base.2.1≠1) then none else
 match gap l a.base.1 b.base.1 with
 | some d=>if a.base.2.2-b.base.2.2<d then some true else (match gap l b.base.1 a.base.1 with
  | some e=>if b.base.2.2-a.base.2.2≤e then some false else none
  | none=>none)
 | none=>match gap l b.base.1 a.base.1 with
  | some e=>if b.base.2.2-a.base.2.2≤e then some false else none
  | none=>none
def eqlOn (l:List (SB × Bool)) (a b:SI):Option Bool:=match diffOn l a b,diffOn l b a with
 | some true,_=>some false
 | _,some true=>some false
 | some false,some false=>some true
 | _,_=>none
def orO (a b:Option Bool):Option Bool:=match a with
 | some t=>some t
 | none=>b
def knowOn (l:List (SB × Bool)) (b:SB):Option Bool:=orO (findAsm b l) (match b with
 | .lss p q=>diffOn l p q
 | .eql p q=>eqlOn l p q
 | _=>none)
def derive (l:List (SB × Bool)):List (SB × Bool)→List (SB × Bool)
 | []=>[]
 | (.iff x y,t)::r=>(match knowOn l y with
  | some u=>[(x,u == t)]
  | none=>match knowOn l x with
   | some u=>[(y,u == t)]
   | none=>[])++derive l r
 | _::r=>derive l r
def Ctx.more (G:Ctx):List (SB × Bool):=match derive G.asm G.asm with
 | []=>G.asm
 | l=>derive (l++G.asm) G.asm++(l++G.asm)
def SI.rangeS (G:Ctx):SI→Option (Int × Int)
 | .lit n=>some (n,n)
 | a=>match a.base.1.range G with
  | some r=>(match tight (SI.range G) a.base.1 r G.more with
   | q=>some (a.base.2.1*q.1+a.base.2.2,a.base.2.1*q.2+a.base.2.2))
  | none=>none
def SI.rangeW (G:Ctx):SI→Option (Int × Int)
 | .wrap k y=>match y.rangeS G with
  | some q=>if inRange q k then some q else some (rangeOf k)
  | none=>some (rangeOf k)
 | .add a b=>match a.rangeS G,b.rangeS G with
  | some x,some y=>some (x.1+y.1,x.2+y.2)
  | _,_=>none
 | .sub a b=>match a.rangeS G,b.rangeS G with
  | some x,some y=>some (x.1-y.2,x.2-y.1)
  | _,_=>none
 | a=>a.range G
def litS?:SI→Option Int
 | .lit n=>some n
 | _=>none
def SI.rangeT (G:Ctx) (a:SI):Option (Int × Int):=match litS? a with
 | some n=>some (n,n)
 | none=>match a.base.1.rangeW G with
 | some r=>match tight (SI.rangeS G) a.base.1 (tight (SI.rangeS G) a.base.1 r G.more) G.more with
  | q=>some (a.base.2.1*q.1+a.base.2.2,a.base.2.1*q.2+a.base.2.2)
 | none=>none
def wrapK (G:Ctx) (k:IntKind) (a:SI):SI:=match mkWrap G k a with
 | .wrap l y=>match y.rangeT G with
  | some q=>if inRange q l then y else .wrap l y
  | none=>.wrap l y
 | x=>x
def remLss (G:Ctx) (a b:SI) (y:Int × Int):Option Bool:=match a with
 | .rem c d=>if d=b∧1≤y.1 then (match c.rangeT G with
  | some z=>if 0≤z.1 then some true else none
  | none=>none) else none
 | _=>none
def diffLss (G:Ctx) (a b:SI):Option Bool:=diffOn G.more a b
def diffEql (G:Ctx) (a b:SI):Option Bool:=eqlOn G.more a b
def SI.mulOf (G:Ctx):SI→Option (SI × Int × Int × Int)
 | .mul a (.lit c)=>some (a,c,0,0)
 | .add x y=>match x.mulOf G with
  | some (a,c,l,h)=>(match y.rangeS G with
   | some q=>some (a,c,l+q.1,h+q.2)
   | none=>none)
  | none=>match y.mulOf G with
   | some (a,c,l,h)=>(match x.rangeS G with
    | some q=>some (a,c,l+q.1,h+q.2)
    | none=>none)
   | none=>none
 | _=>none
def mulGap (G:Ctx) (a d:SI):Option Int:=if a.base.2.1=1∧d.base.2.1=1 then (if a.base.1=d.base.1 then some (d.base.2.2-a.base.2.2) else match gap G.more a.base.1 d.base.1 with
 | some g=>some (g+d.base.2.2-a.base.2.2)
 | none=>none) else none
def mulLss (G:Ctx) (x y:SI):Option Bool:=match x.mulOf G,y.mulOf G with
 | some (a,c,l,h),some (d,e,l',h')=>if c=e∧0<c then (match mulGap G a d with
  | some g=>if h-g*c<l' then some true else (match mulGap G d a with
   | some k=>if h'-k*c≤l then some false else none
   | none=>none)
  | none=>match mulGap G d a with
   | some k=>if h'-k*c≤l then some false else none
   | none=>none) else none
 | _,_=>none
def knowT (G:Ctx):SB→Option Bool
 | .lss a b=>match a.rangeT G,b.rangeT G with
  | some x,some y=>if x.2<y.1 then some true else if y.2≤x.1 then some false else orO (remLss G a b y) (orO (diffLss G a b) (mulLss G a b))
  | _,_=>none
 | .eql a b=>match a.rangeT G,b.rangeT G with
  | some x,some y=>if x.2<y.1∨y.2<x.1 then some false else if x.1=x.2∧y.1=y.2∧x.1=y.1 then some true else diffEql G a b
  | _,_=>none
 | _=>none
def scaleP (k:Int):List (SI × Int)→List (SI × Int)
 | []=>[]
 | p::r=>(p.1,p.2*k)::scaleP k r
def SI.parts:SI→List (SI × Int) × Int
 | .lit c=>([],c)
 | .add a b=>(a.parts.1++b.parts.1,a.parts.2+b.parts.2)
 | .mul a (.lit k)=>(scaleP k a.parts.1,a.parts.2*k)
 | a=>([(a,1)],0)
def insP (x:SI × Int):List (SI × Int)→List (SI × Int)
 | []=>[x]
 | y::r=>if x.2≤y.2 then x::y::r else y::insP x r
def sortP:List (SI × Int)→List (SI × Int)
 | []=>[]
 | x::r=>insP x (sortP r)
def putP (x:SI) (k:Int):List (SI × Int)→List (SI × Int)
 | []=>if k=0 then [] else [(x,k)]
 | p::r=>if p.1=x then (if p.2+k=0 then r else (x,p.2+k)::r) else p::putP x k r
def mergeP:List (SI × Int)→List (SI × Int)→List (SI × Int)
 | [],l=>l
 | p::r,l=>mergeP r (putP p.1 p.2 l)
def subP (p q:List (SI × Int) × Int):List (SI × Int) × Int:=(mergeP (scaleP (-1) q.1) p.1,p.2-q.2)
def diffP (a b:SI):List (SI × Int) × Int:=(mergeP (scaleP (-1) b.parts.1) (mergeP a.parts.1 []),a.parts.2-b.parts.2)
def rangeV (k:Nat) (r:Int × Int):List (SB × Bool)→Int × Int
 | []=>r
 | p::l=>match rangeV k r l with
  | q=>(match p with
   | (.eql (.var i) (.lit n),t)=>bif Nat.beq i k&&!t then (if n=q.1 then (q.1+1,q.2) else if n=q.2 then (q.1,q.2-1) else q) else q
   | (.lss (.var i) (.lit n),t)=>bif Nat.beq i k then (bif t then (q.1,min q.2 (n-1)) else (max q.1 n,q.2)) else q
   | (.lss (.lit n) (.var i),t)=>bif Nat.beq i k then (bif t then (max q.1 (n+1),q.2) else (q.1,min q.2 n)) else q
   | _=>q)
def SI.rangeQ (G:Ctx):SI→Option (Int × Int)
 | .var k=>(match G.rng[k]? with
  | some (some r)=>some (rangeV k r G.asm)
  | _=>none)
 | a=>a.range G
def loP (G:Ctx):List (SI × Int)→Int→Option Int
 | [],c=>some c
 | p::r,c=>match p.1.rangeQ G,loP G r c with
  | some q,some l=>some (l+(if 0≤p.2 then q.1*p.2 else q.2*p.2))
  | _,_=>none
def geP (G:Ctx) (d:List (SI × Int) × Int):Bool:=match loP G d.1 d.2 with
 | some l=>decide (0≤l)
 | none=>false
def factP:SB × Bool→List (List (SI × Int) × Int)
 | (.lss a b,true)=>match diffP b a with
  | p=>[(p.1,p.2-1)]
 | (.lss a b,false)=>[diffP a b]
 | (.eql a b,true)=>[diffP a b,diffP b a]
 | _=>[]
def factsP:List (SB × Bool)→List (List (SI × Int) × Int)
 | []=>[]
 | x::r=>factP x++factsP r
def coefP (x:SI):List (SI × Int)→Int
 | []=>0
 | p::r=>if p.1=x then p.2 else coefP x r
def nearP (d f:List (SI × Int)):Bool:=f.any fun p=>decide (0<p.2*coefP p.1 d)
def geBy (G:Ctx) (all:List (List (SI × Int) × Int)) (d:List (SI × Int) × Int):Nat→Bool
 | 0=>geP G d
 | n+1=>geP G d||all.any fun f=>nearP d.1 f.1&&geBy G all (subP d f) n
def linLss (G:Ctx) (all:List (List (SI × Int) × Int)) (a b:SI):Option Bool:=match diffP b a with
 | d=>if geBy G all (d.1,d.2-1) 2 then some true else if geBy G all (scaleP (-1) d.1,-d.2) 2 then some false else none
def linK (G:Ctx):SB→Option Bool
 | .lss a b=>linLss G (factsP G.more) a b
 | .eql a b=>match factsP G.more with
  | all=>(match linLss G all a b with
   | some true=>some false
   | some false=>(match linLss G all b a with
    | some true=>some false
    | some false=>some true
    | none=>none)
   | none=>(match linLss G all b a with
    | some true=>some false
    | _=>none))
 | _=>none
def knowE (G:Ctx) (s:SB):Option Bool:=orO (findAsm s G.asm) (knowT G s)
def conjE (G:Ctx) (s t:SB):Bool ⊕ SB:=match knowE G s with
 | some false=>.inl false
 | some true=>(match knowE G t with
  | some b=>.inl b
  | none=>.inr t)
 | none=>(match knowE G t with
  | some false=>.inl false
  | _=>.inr s)
def eqlP1 (G:Ctx) (f a:SI) (m k c n:Int):Option (Bool ⊕ SB):=if 0<m∧0<k then (match f.rangeT G with
 | some r=>(match -((-(n-c-m*r.2)) / k),(n-c-m*r.1) / k with
  | l,h=>if h<l then some (.inl false) else if l=h then (if (n-c-k*l) % m≠0 then some (.inl false) else some (conjE G (.eql a (.lit l)) (.eql f (.lit ((n-c-k*l) / m))))) else none)
 | none=>none) else none
def eqlP0 (G:Ctx) (a:SI) (k c n:Int):Option (Bool ⊕ SB):=if 1<k then (if (n-c) % k≠0 then some (.inl false) else match knowE G (.eql a (.lit ((n-c) / k))) with
 | some b=>some (.inl b)
 | none=>some (.inr (.eql a (.lit ((n-c) / k))))) else none
def eqlP (G:Ctx) (x y:SI):Option (Bool ⊕ SB):=match sortP x.parts.1,sortP y.parts.1 with
 | [(a,k)],[]=>eqlP0 G a k x.parts.2 y.parts.2
 | [],[(a,k)]=>eqlP0 G a k y.parts.2 x.parts.2
 | [(f,m),(a,k)],[]=>eqlP1 G f a m k x.parts.2 y.parts.2
 | [],[(f,m),(a,k)]=>eqlP1 G f a m k y.parts.2 x.parts.2
 | [(f,m),(a,k)],[(g,m'),(b,k')]=>if m=m'∧k=k'∧x.parts.2=y.parts.2∧0<m∧0<k then (match f.rangeT G,g.rangeT G with
  | some r,some q=>if m*(r.2-q.1)<k∧m*(q.2-r.1)<k then some (conjE G (.eql a b) (.eql f g)) else none
  | _,_=>none) else none
 | _,_=>none
def eqlK (G:Ctx):SB→Option Bool
 | .eql x y=>match eqlP G x y with
  | some (.inl b)=>some b
  | _=>none
 | _=>none
def eqlAt (G:Ctx) (x y:SI):SB:=match eqlP G x y with
 | some (.inr s)=>s
 | _=>.eql x y
def isWrapS:SI→Bool
 | .wrap _ _=>true
 | _=>false
def unw (G:Ctx):SI→SI
 | .wrap k y=>match y.rangeS G with
  | some q=>if inRange q k then y else .wrap k y
  | none=>.wrap k y
 | a=>a
def unwB (G:Ctx):SB→Option SB
 | .lss a b=>if isWrapS a||isWrapS b then some (.lss (unw G a) (unw G b)) else none
 | .eql a b=>if isWrapS a||isWrapS b then some (.eql (unw G a) (unw G b)) else none
 | _=>none
def overS:SI→Option SB
 | .wrap k (.add x (.lit c))=>if 0<c then some (.lss (.lit (k.max-c)) x) else some (.lss x (.lit (k.min-c)))
 | _=>none
def quickL (G:Ctx) (j:Int) (k:Nat):Option Bool:=match G.rng[k]? with
 | some (some r)=>(match rangeV k r G.asm with
  | q=>if j<q.1 then some true else if q.2≤j then some false else none)
 | _=>none
def pairE (i j:Nat):List (SB × Bool)→Option Bool
 | []=>none
 | p::r=>match p with
  | (.eql (.var a) (.var b),t)=>bif (Nat.beq a i&&Nat.beq b j)||(Nat.beq a j&&Nat.beq b i) then some t else pairE i j r
  | _=>pairE i j r
def varS:SI→Option Nat
 | .var i=>some i
 | _=>none
def pairQ (G:Ctx) (a b:SI):Option Bool:=match varS a.base.1,varS b.base.1 with
 | some i,some j=>if a.base.2.1=b.base.2.1∧a.base.2.2=b.base.2.2∧a.base.2.1≠0 then pairE i j G.asm else none
 | _,_=>none
def quickK (G:Ctx):SB→Option Bool
 | .lss (.lit j) (.var k)=>quickL G j k
 | .lss (.var k) (.lit j)=>(match quickL G (j-1) k with
  | some t=>some (!t)
  | none=>none)
 | .lss (.lit j) (.add (.var k) (.lit c))=>quickL G (j-c) k
 | .eql a b=>pairQ G a b
 | _=>none
def sameQ (G:Ctx) (a b:SI):Option Bool:=if a=b then some true else pairQ G a b
def viaE (G:Ctx) (a b:SI):List (SB × Bool)→Option Bool
 | []=>none
 | p::r=>orO (match p with
  | (.eql x y,true)=>if x=b then sameQ G a y else if x=a then sameQ G y b else if y=b then sameQ G a x else if y=a then sameQ G x b else none
  | (.eql x y,false)=>if x=b∧y=a then some false else none
  | _=>none) (viaE G a b r)
def viaK (G:Ctx):SB→Option Bool
 | .eql a b=>viaE G a b G.asm
 | _=>none
def SB.know (G:Ctx):SB→Option Bool
 | .lit b=>some b
 | .not a=>match a.know G with
  | some t=>some (!t)
  | none=>none
 | .iff a b=>match a.know G,b.know G with
  | some s,some t=>some (s == t)
  | _,_=>none
 | b=>match findAsm b G.asm with
  | some t=>some t
  | none=>orO (quickK G b) (orO (knowT G b) (orO (match unwB G b with
   | some c=>findAsm c G.asm
   | none=>none) (orO (match derive G.asm G.asm with
   | []=>none
   | _=>findAsm b G.more) (orO (eqlK G b) (orO (viaK G b) (linK G b))))))
def quickE (k:Nat) (j:Int):List (SB × Bool)→Option Bool
 | []=>none
 | p::r=>match p with
  | (.eql (.var i) (.lit n),t)=>bif Nat.beq i k then (bif t then some (decide (n=j)) else bif decide (n=j) then some false else quickE k j r) else quickE k j r
  | _=>quickE k j r
def saysOf (k:Nat):List (SB × Bool)→Bool
 | []=>false
 | p::r=>(match p with
  | (.eql (.var i) (.lit _),_)=>Nat.beq i k
  | (.lss (.var i) (.lit _),_)=>Nat.beq i k
  | (.lss (.lit _) (.var i),_)=>Nat.beq i k
  | _=>false)||saysOf k r
def SB.knowG (G:Ctx):SB→Option Bool
 | .lss (.lit j) (.var k)=>quickL G j k
 | .lss (.lit j) (.add (.var k) (.lit c))=>quickL G (j-c) k
 | .eql (.var k) (.lit j)=>match quickE k j G.asm with
  | some t=>some t
  | none=>bif saysOf k G.asm then (match G.rng[k]? with
   | some (some r)=>(match rangeV k (rangeV k r G.asm) G.asm with
    | q=>if j<q.1∨q.2<j then some false else if q.1=q.2 then some true else none)
   | _=>none) else none
 | s=>s.know G
def oneP (x:List (SI × Int) × Int) (d:SB):SB:=match x with
 | ([(.var k,m)],c)=>if m=1 then .lss (.lit (-c)) (.var k) else if m = -1 then .lss (.var k) (.lit c) else d
 | _=>d
def fixP (G:Ctx):List (SI × Int)→List (SI × Int) × Int
 | []=>([],0)
 | p::r=>match fixP G r,p.1.rangeT G with
  | q,some z=>if z.1=z.2 then (q.1,q.2+p.2*z.1) else (p::q.1,q.2)
  | q,none=>(p::q.1,q.2)
def lssAt (G:Ctx) (a b:SI):SB:=match diffP b a with
 | x=>match x.1 with
  | []=>.lss a b
  | [_]=>(match a.parts.1,b.parts.1 with
   | [],_=>.lss a b
   | _,[]=>.lss a b
   | _,_=>oneP x (.lss a b))
  | l=>match fixP G l with
   | q=>oneP (q.1,x.2+q.2) (.lss a b)
def SB.atom (G:Ctx):SB→SB
 | .not a=>a.atom G
 | .iff a b=>match a.know G with
  | some _=>b.atom G
  | none=>a.atom G
 | .lss a b=>match unw G a,unw G b with
  | a',b'=>match overS a',overS b' with
   | some o,p=>(match o.know G with
    | none=>o
    | some _=>match p with
     | some p=>(match p.know G with
      | none=>p
      | some _=>.lss a' b')
     | none=>.lss a' b')
   | none,some p=>(match p.know G with
    | none=>p
    | some _=>.lss a' b')
   | none,none=>lssAt G a' b'
 | .eql a b=>eqlAt G a b
 | b=>b
def mkSel (G:Ctx) (k:IntKind):SI→SI→SI ⊕ SB
 | .con v,_=>.inl (mkWrap G k (.lit v))
 | .upd a j v,i=>match (mkEql G i j).know G with
  | some true=>.inl (mkWrap G k v)
  | some false=>mkSel G k a i
  | none=>.inr ((mkEql G i j).atom G)
 | .app a n b o,i=>match (mkLss G i n).know G with
  | some true=>mkSel G k a i
  | some false=>mkSel G k b (mkAdd (mkSub i n) o)
  | none=>.inr ((mkLss G i n).atom G)
 | .rmap l a o,i=>match mkSel G l a (mkAdd i (.lit o)) with
  | .inl v=>.inl (mkWrap G k v)
  | .inr s=>.inr s
 | a,i=>.inl (.sel k a i)
def addP:SI→List (SI × Int)→SI
 | a,[]=>a
 | a,p::r=>addP (mkAdd a (mkMul p.1 (.lit p.2))) r
def sumP (l:List (SI × Int)) (c:Int):SI:=match sortP l with
 | []=>.lit c
 | p::r=>mkAdd (addP (mkMul p.1 (.lit p.2)) r) (.lit c)
def bndP (G:Ctx):List (SI × Int)→Int→Option (Int × Int)
 | [],c=>some (c,c)
 | p::r,c=>match p.1.rangeT G,bndP G r c with
  | some q,some h=>if 0≤p.2 then some (h.1+q.1*p.2,h.2+q.2*p.2) else some (h.1+q.2*p.2,h.2+q.1*p.2)
  | _,_=>none
def hiP (G:Ctx) (l:List (SI × Int)) (c:Int):Option Int:=match bndP G l c with
 | some h=>if 0≤h.1 then some h.2 else none
 | none=>none
def lowP (m:Int):List (SI × Int)→List (SI × Int)
 | []=>[]
 | p::r=>if p.2 % m=0 then lowP m r else p::lowP m r
def highP (m:Int):List (SI × Int)→List (SI × Int)
 | []=>[]
 | p::r=>if p.2 % m=0 then p::highP m r else highP m r
def splitP (G:Ctx) (m:Int) (p:List (SI × Int) × Int):Option ((List (SI × Int) × Int) × (List (SI × Int) × Int)) :=
 match hiP G (lowP m p.1) (p.2 % m) with
 | some h=>if h<m then some ((lowP m p.1,p.2 % m),(highP m p.1,p.2-p.2 % m)) else none
 | none=>none
def divP (m:Int):List (SI × Int)→List (SI × Int)
 | []=>[]
 | p::r=>(p.1,p.2 / m)::divP m r
def tzF:Nat→Nat→Nat
 | 0,_=>0
 | f+1,n=>bif Nat.beq (Nat.mod n 2) 0 then tzF f (Nat.div n 2)+1 else 0
def maskAt (m:Int):Option (Nat × Nat):=match m with
 | .ofNat n=>if n≠0∧(n:Int)=2 ^ (Nat.log2 n+1)-2 ^ tzF 64 n then some (tzF 64 n,Nat.log2 n+1) else none
 | _=>none
def andF (G:Ctx) (k:IntKind) (a:SI) (m:Int) (neg:Bool):Option SI :=
 if k.signed then none else match maskAt m with
 | some (lo,hi)=>if hi≤k.bits∧lo≤hi then (match hiP G a.parts.1 a.parts.2 with
  | some h=>if h<2 ^ k.bits then (match splitP G (2 ^ hi) a.parts with
   | some (L,H)=>match splitP G (2 ^ lo) L with
    | some (l,mid)=>some (if neg then sumP (l.1++H.1) (l.2+H.2) else sumP mid.1 mid.2)
    | none=>none
   | none=>none) else none
  | none=>none) else none
 | none=>none
def gcdP (c:Int):List (SI × Int)→Nat
 | []=>c.natAbs
 | p::r=>Nat.gcd p.2.natAbs (gcdP c r)
def orF (G:Ctx) (k:IntKind) (a b:SI):Option SI :=
 if k.signed then none else match hiP G a.parts.1 a.parts.2,hiP G b.parts.1 b.parts.2 with
 | some h,some h'=>match tzF 64 (gcdP b.parts.2 b.parts.1),Nat.log2 h'.toNat+1 with
  | lo,hi=>if h<2 ^ k.bits∧h'<2 ^ hi∧hi≤k.bits∧lo≤hi∧((gcdP b.parts.2 b.parts.1:Nat):Int) % 2 ^ lo=0 then (match splitP G (2 ^ hi) a.parts with
   | some (L,_)=>match splitP G (2 ^ lo) L with
    | some (_,([],0))=>some (sumP (a.parts.1++b.parts.1) (a.parts.2+b.parts.2))
    | _=>none
   | none=>none) else none
 | _,_=>none
def bitsG (G:Ctx) (o:BinOp) (k:IntKind) (a b:SI):SI:=match o,b with
 | .and,.lit m=>match a with
  | .lit _=>mkBits .and k a b
  | a=>(match andF G k a m false with
   | some x=>x
   | none=>mkBits .and k a b)
 | .andNot,.lit m=>match a with
  | .lit _=>mkBits .andNot k a b
  | a=>(match andF G k a m true with
   | some x=>x
   | none=>mkBits .andNot k a b)
 | .or,b=>match a,b with
  | .lit _,.lit _=>mkBits .or k a b
  | a,b=>(match orF G k a b with
   | some x=>x
   | none=>match orF G k b a with
    | some x=>x
    | none=>mkBits .or k a b)
 | o,b=>mkBits o k a b
def shlG (G:Ctx) (k:IntKind) (a:SI) (n:Nat):SI:=match hiP G a.parts.1 a.parts.2 with
 | some h=>if h*2 ^ n≤k.max then sumP (scaleP (2 ^ n) a.parts.1) (a.parts.2*2 ^ n) else .shl k a n
 | none=>.shl k a n
def shrG (G:Ctx) (a:SI) (n:Nat):SI:=match splitP G (2 ^ n) a.parts with
 | some (_,H)=>sumP (divP (2 ^ n) H.1) (H.2 / 2 ^ n)
 | none=>.shr a n
inductive AV where
 | bool (b:SB)
 | int (k:IntKind) (n:SI)
 | str (s:ByteArray)
 | nilPtr
 | ptr (id:Nat) (off:SI)
 | nilSlice
 | slice (id:Nat) (off len cap:SI)
 | slack (id:Nat) (skip size len:Nat)
 | empty (full:Bool)
 | nilMap
 | map (id:Nat)
 | nilChan
 | chan (id:Nat)
 | func (fn:Fn) (first captured:List AV)
 | yieldF (l:Nat)
 | nilFunc
 | iface (t:TypeId) (v:AV)
 | nilIface
 | agg (cs:List AV)
 | tuple (vs:List AV)
 | raw (i:Nat)
 | any                                  -- whatever
 | oslice (id size:Nat) (len:SI)    -- all of a block that may have room behind it
 | ite (s:SB) (x y:AV)              -- one or the other
def undefA:AV:=.tuple []
mutual
def VRel (E:Env):AV→Value→Prop
 | .bool b,v=>v=.bool (b.den E)
 | .int k n,v=>v=.int k (n.den E)
 | .str s,v=>v=.string s
 | .nilPtr,v=>v=.pointer none
 | .ptr id off,v=>∃ b,E.loc id=some b∧0≤off.den E∧v=.pointer (some ⟨b,(off.den E).toNat,none⟩)
 | .nilSlice,v=>v=.slice none 0 0
 | .slice id off len cap,v=>∃ b,E.loc id=some b∧0≤off.den E∧v=.slice (some ⟨b,(off.den E).toNat,none⟩) (len.den E).toNat (cap.den E).toNat
 | .slack id skip size len,v=>∃ b,E.loc id=some b∧skip+len≤E.cap id∧v=.slice (some ⟨b,skip*size,none⟩) len (E.cap id-skip)
 | .empty full,v=>∃ a c,(full=true→c=0)∧v=.slice (some a) 0 c
 | .nilMap,v=>v=.map none
 | .map id,v=>∃ b,E.loc id=some b∧v=.map (some b)
 | .nilChan,v=>v=.chan none
 | .chan id,v=>∃ b,E.loc id=some b∧v=.chan (some b)
 | .func fn first captured,v=>∃ f c,(∀ l,fn≠.yield l)∧VRelL E first f∧VRelL E captured c∧v=.func fn f.toArray c.toArray
 | .yieldF l,v=>∃ b,E.loc l=some b∧v=.func (.yield b) #[] #[]
 | .nilFunc,v=>v=.nilFunc
 | .iface t x,v=>∃ y,VRel E x y∧v=.iface t y
 | .nilIface,v=>v=.nilIface
 | .agg cs,v=>∃ vs,VRelL E cs vs∧v=.agg vs.toArray
 | .tuple cs,v=>∃ vs,VRelL E cs vs∧v=.tuple vs.toArray
 | .raw i,v=>v=E.val i
 | .any,_=>True
 | .ite s x y,v=>(s.den E=true→VRel E x v)∧(s.den E=false→VRel E y v)
 | .oslice id _ len,v=>∃ b,E.loc id=some b∧0≤len.den E∧len.den E≤E.cap id∧v=.slice (some ⟨b,0,none⟩) (len.den E).toNat (E.cap id)
def VRelL (E:Env):List AV→List Value→Prop
 | [],vs=>vs=[]
 | x::xs,vs=>∃ y ys,VRel E x y∧VRelL E xs ys∧vs=y::ys
end
def ofConst:Value→Option AV
 | .bool b=>some (.bool (.lit b))
 | .int k n=>some (.int k (.lit n))
 | .string s=>some (.str s)
 | .pointer none=>some .nilPtr
 | .slice none 0 0=>some .nilSlice
 | .map none=>some .nilMap
 | .chan none=>some .nilChan
 | .nilFunc=>some .nilFunc
 | .nilIface=>some .nilIface
 | .agg cs=>(cs.toList.mapM ofFlat).map .agg
 | .tuple cs=>(cs.toList.mapM ofFlat).map .tuple
 | _=>none
 where
 ofFlat:Value→Option AV
 | .bool b=>some (.bool (.lit b))
 | .int k n=>some (.int k (.lit n))
 | .string s=>some (.str s)
 | .pointer none=>some .nilPtr
 | .slice none 0 0=>some .nilSlice
 | .map none=>some .nilMap
 | .chan none=>some .nilChan
 | .nilFunc=>some .nilFunc
 | .nilIface=>some .nilIface
 | _=>none
inductive ADef where
 | collected (id:Nat)
 | call (f:FuncId) (args:List AV)
inductive CK where
 | int (k:IntKind)
 | bool
 deriving DecidableEq
inductive Md where
 | own
 | opn
 | ro (o:SI)
 deriving DecidableEq
def Md.isRo:Md→Bool
 | .ro _=>true
 | _=>false
def stripS (o:SI):SI→Option SI
 | .add x y=>if x=o then some y else if (SI.add x y)=o then some (.lit 0) else match stripS o x with
  | some z=>some (mkAdd z y)
  | none=>none
 | t=>if t=o then some (.lit 0) else none
def Md.offOf (off:SI):Md→Option SI
 | .ro o=>stripS o off
 | _=>some off
def CK.val:CK→Int→Value
 | .int k,n=>.int k (k.wrap n)
 | .bool,n=>.bool (IntKind.i64.wrap n == 1)
inductive AB where
 | cells (cs:List AV) (elem:TypeId)
 | rep (n:Nat) (z:AV) (ov:Tr AV) (elem:TypeId)
 | opn (cs:List AV) (elem:TypeId) (size:Nat)
 | loop (st:LoopState) (pending:Option Code) (fn:FuncId) (tmps:Tr AV) (size:Nat) (params:Array Tmp) (assign body:Code) (defers:Nat)
 | deferred (calls:Option (List ADef))
 | chan (cap:Nat) (buf:List AV)
 | chanB (s:SB) (v:AV)            -- a channel with room for one: it has one just if that is so
 | map (es:List (AV × AV))
 | row (md:Md) (a n:SI) (pat:List CK) (elem:TypeId)
 | ros (o n:SI) (cs:List AV) (elem:TypeId)   -- read alone,from a place on: so many,of which the first ones are these
def AB.rw:AB→Bool
 | .row (.ro _) _ _ _ _=>false
 | .ros _ _ _ _=>false
 | _=>true
structure AHeap where
 m:Tr AB
 next:Nat
 gs:List (SB × List (Nat × AB)):=[]
def AHeap.get (H:AHeap) (id:Nat):Option AB:=H.m.get id
def AHeap.new (H:AHeap) (b:AB):AHeap:={ m:=H.m.set H.next b,next:=H.next+1,gs:=H.gs }
def AHeap.upd (H:AHeap) (id:Nat) (b:AB):AHeap:={ H with m:=H.m.set id b }
def AHeap.lay (m:Tr AB):List (Nat × AB)→Tr AB
 | []=>m
 | (i,b)::r=>AHeap.lay (m.set i b) r
def AHeap.laid (G:Ctx) (m:Tr AB) (next:Nat):List (SB × List (Nat × AB))→List (SB × List (Nat × AB))→AHeap
 | [],acc=>{ m,next,gs:=acc }
 | (s,l)::r,acc=>match s.knowG G with
  | some true=>AHeap.laid G (AHeap.lay m l) next r acc
  | some false=>AHeap.laid G m next r acc
  | none=>AHeap.laid G m next r ((s,l)::acc)
def AHeap.refine (G:Ctx) (H:AHeap):AHeap :=
 match H.gs with
 | []=>H
 | g::r=>AHeap.laid G H.m H.next (g::r) []
inductive AItem where
 | code (c:Code)
 | inBlock (id:Nat)
 | inLoop (body:Code)
 | inScope (body:Code)
 | inRangeFunc (l:Nat)
 | endRangeFunc (l:Nat)
 | beginRound
inductive AReg where
 | none
 | seq (ops:Array Oper) (i:Nat) (rest:List Oper)
 | any (ops:Array Oper) (undone:List (Nat × Oper)) (pre:List (Nat × Oper))
structure AFrame where
 fn:FuncId
 tmps:Tr AV
 size:Nat
 reg:AReg
 todo:List AItem
 defers:List ADef
 returning:Bool
 deferred:Bool
 round:Option Nat
structure Cfg where
 fr:AFrame
 callers:List AFrame
 heap:AHeap
def Cfg.refine (G:Ctx) (c:Cfg):Cfg :=
 match c.heap.gs with
 | []=>c
 | _=>{ c with heap:=c.heap.refine G }
end
end Go.Ev
