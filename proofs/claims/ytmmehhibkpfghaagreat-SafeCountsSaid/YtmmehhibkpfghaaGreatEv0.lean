/- Ev, part 10: laws at the cuts by clauses over linear forms; proofs of leaves are given, and looked at here. -/
import Derived.Test.YtmmehhibkpfghaaGreatEv8
set_option linter.unusedVariables false
namespace Go.Ev.Cl
abbrev LF:=List (Nat × Int) × Int
inductive Lit where
 | ge (f:LF)
 | eq (f:LF)
 | ne (f:LF)
 | bl (i:Nat) (t:Bool)
def mrg:Nat→List (Nat × Int)→List (Nat × Int)→List (Nat × Int)
 | 0,a,b=>a++b
 | _+1,[],b=>b
 | _+1,x::a,[]=>x::a
 | n+1,(i,c)::a,(j,d)::b =>
  bif Nat.blt j i then (i,c)::mrg n a ((j,d)::b)
  else bif Nat.blt i j then (j,d)::mrg n ((i,c)::a) b
  else if i=j then (if c+d=0 then mrg n a b else (i,c+d)::mrg n a b) else (i,c)::(j,d)::(a++b)
def sclL (k:Int):List (Nat × Int)→List (Nat × Int)
 | []=>[]
 | (i,c)::r=>(i,k*c)::sclL k r
def LF.scl (k:Int) (f:LF):LF:=(sclL k f.1,k*f.2)
def mulF (k:Int) (f:LF):LF:=if k=0 then ([],0) else LF.scl k f
def LF.add (f g:LF):LF:=(mrg 400 f.1 g.1,f.2+g.2)
def LF.neg (f:LF):LF:=f.scl (-1)
def eqL:List (Nat × Int)→List (Nat × Int)→Bool
 | [],[]=>true
 | (i,c)::a,(j,d)::b=>Nat.beq i j&&decide (c=d)&&eqL a b
 | _,_=>false
def eqF (f g:LF):Bool:=decide (f.2=g.2)&&eqL f.1 g.1
def Lit.not:Lit→Lit
 | .ge f=>.ge (match f.neg with | g=>(g.1,g.2-1))
 | .eq f=>.ne f
 | .ne f=>.eq f
 | .bl i t=>.bl i (!t)
def Lit.ids:Lit→List Nat
 | .ge f=>f.1.map (·.1)
 | .eq f=>f.1.map (·.1)
 | .ne f=>f.1.map (·.1)
 | .bl _ _=>[]
def eqS:SI→SI→Bool
 | .lit a,.lit b=>decide (a=b)
 | .var i,.var j=>Nat.beq i j
 | .row i,.row j=>Nat.beq i j
 | .add a b,.add c d=>eqS a c&&eqS b d
 | .mul a b,.mul c d=>eqS a c&&eqS b d
 | .quo a b,.quo c d=>eqS a c&&eqS b d
 | .rem a b,.rem c d=>eqS a c&&eqS b d
 | .wrap k a,.wrap l b=>decide (k=l)&&eqS a b
 | .sel k a i,.sel l b j=>decide (k=l)&&eqS i j&&eqS a b
 | .con a,.con b=>decide (a=b)
 | .upd a b c,.upd d e f=>eqS b e&&eqS c f&&eqS a d
 | .sub a b,.sub c d=>eqS a c&&eqS b d
 | .cnt a b c,.cnt d e f=>Nat.beq a d&&eqS c f&&eqS b e
 | _,_=>false
def idxS (a:SI):List SI→Nat→Option Nat
 | [],_=>none
 | x::r,n=>bif eqS x a then some n else idxS a r (n+1)
def atomF (T:List SI) (a:SI):Option LF:=match idxS a T 0 with
 | some j=>some ([(2*j+1,1)],0)
 | none=>none
def linS (T:List SI):SI→Option LF
 | .lit n=>some ([],n)
 | .var i=>some ([(2*i,1)],0)
 | .add a b=>match linS T a,linS T b with
  | some f,some g=>some (f.add g)
  | _,_=>none
 | .sub a b=>match linS T a,linS T b with
  | some f,some g=>some (f.add g.neg)
  | _,_=>none
 | .mul a b=>match linS T a,linS T b with
  | some ([],c),some g=>some (mulF c g)
  | some f,some ([],c)=>some (mulF c f)
  | _,_=>atomF T (.mul a b)
 | a=>atomF T a
def litS (T:List SI):SB→Bool→Option Lit
 | .lss a b,true=>match linS T a,linS T b with
  | some f,some g=>match g.add f.neg with | h=>some (.ge (h.1,h.2-1))
  | _,_=>none
 | .lss a b,false=>match linS T a,linS T b with
  | some f,some g=>some (.ge (f.add g.neg))
  | _,_=>none
 | .eql a b,true=>match linS T a,linS T b with
  | some f,some g=>some (.eq (f.add g.neg))
  | _,_=>none
 | .eql a b,false=>match linS T a,linS T b with
  | some f,some g=>some (.ne (f.add g.neg))
  | _,_=>none
 | .var i,t=>some (.bl i t)
 | .not x,t=>litS T x (!t)
 | _,_=>none
def clsS (T:List SI):List (SB × Bool)→Option (List Lit)
 | []=>some []
 | (b,t)::r=>match litS T b t,clsS T r with
  | some x,some l=>some (x::l)
  | _,_=>none
def isInd:SI→Bool
 | .quo (.lit (.ofNat 1)) (.add (.mul e e') (.lit (.ofNat 1)))=>eqS e e'
 | .mul a b=>isInd a&&isInd b
 | .sub (.lit (.ofNat 1)) a=>isInd a
 | _=>false
def indC (t:SI) (is:Bool):List (List (SB × Bool)):=bif is then [[(.lss t (.lit 0),false)],[(.lss (.lit 1) t,false)]] else []
def sumsL:SI→List SI
 | .add a b=>sumsL a++[b]
 | a=>[a]
def fallsL (fa:LF) (n:Int):Int→List SI→Bool
 | _,[]=>true
 | j,.mul (.quo b (.lit m)) _::r=>decide (m=n)&&decide (j<n)&&(match linS [] b with
  | some g=>eqF (g.1,g.2+j) fa
  | none=>false)&&fallsL fa n (j+1) r
 | _,_=>false
def zerosC (x:SI):List (List (SB × Bool)):=match sumsL x with
 | .mul (.quo a (.lit n)) _::r=>(match linS [] a with
  | some fa=>bif decide (0<n)&&fallsL fa n 1 r then [[(.lss a (.lit 0),true),(.lss a (.lit n),false),(.eql (.quo x (.lit (.ofNat 1))) (.lit 0),true)]] else []
  | none=>[])
 | _=>[]
def slideL:List SI→List SI→Option SI
 | [],[m]=>some m
 | a::r,b::l=>bif eqS a b then slideL r l else none
 | _,_=>none
def slidesC (x:SI) (m:SI) (r:List SI) (y:SI):List (List (SB × Bool)):=match slideL r (sumsL y) with
 | some z=>[[(.eql (.add (.quo x (.lit (.ofNat 1))) z) (.add (.quo y (.lit (.ofNat 1))) m),true)]]
 | none=>[]
def ind1 (e:SI):SI:=.quo (.lit 1) (.add (.mul e e) (.lit 1))
def cntT (c:Nat) (a d:SI):SI:=match c with
 | 0=>.sub (.lit 1) (ind1 (.add (.sel .i64 a (mkMul d (.lit 2))) (.lit (-1))))
 | 1=>.mul (ind1 (.add (.sel .i64 a (mkMul d (.lit 2))) (.lit (-1)))) (ind1 (.sel .i64 a (mkAdd (mkMul d (.lit 2)) (.lit 1))))
 | u+2=>.mul (ind1 (.add (.sel .i64 a (mkMul d (.lit 2))) (.lit (-1)))) (ind1 (.add (.sel .i64 a (mkAdd (mkMul d (.lit 2)) (.lit 1))) (.lit (.negSucc u))))
def cntL (c:Nat) (a:SI):SI→List (List (SB × Bool))
 | .lit n=>if 1≤n then [[(.eql (.cnt c a (.lit n)) (.add (.cnt c a (.lit (n-1))) (cntT c a (.lit (n-1)))),true)]] else []
 | _=>[]
def thy:SI→List (List (SB × Bool))
 | .wrap k x=>[[(.lss (.wrap k x) (.lit k.min),false)],[(.lss (.lit k.max) (.wrap k x),false)],[(.lss x (.lit k.min),true),(.lss (.lit k.max) x,true),(.eql (.wrap k x) x,true)]]
 | .sel k a j=>[[(.lss (.sel k a j) (.lit k.min),false)],[(.lss (.lit k.max) (.sel k a j),false)]]++(match a with
  | .con v=>[[(.eql (.sel k a j) (.lit (k.wrap v)),true)]]
  | .upd r i v=>[[(.eql i j,false),(.eql (.sel k a j) (.wrap k v),true)],[(.eql i j,true),(.eql (.sel k a j) (.sel k r j),true)]]
  | _=>[])
 | .rem x (.lit n)=>if 0<n then [[(.lss x (.lit 0),true),(.lss (.rem x (.lit n)) (.lit 0),false)],[(.lss (.rem x (.lit n)) (.lit n),true)]]++(match x with
   | .add y (.lit c)=>if 2≤c then [[(.lss y (.lit 0),true),(.eql (.rem (.add y (.lit (c-1))) (.lit n)) (.lit (n-1)),true),(.eql (.rem (.add y (.lit c)) (.lit n)) (.add (.rem (.add y (.lit (c-1))) (.lit n)) (.lit 1)),true)],
     [(.lss y (.lit 0),true),(.eql (.rem (.add y (.lit (c-1))) (.lit n)) (.lit (n-1)),false),(.eql (.rem (.add y (.lit c)) (.lit n)) (.lit 0),true)]] else
     if c=1 then [[(.lss y (.lit 0),true),(.eql (.rem y (.lit n)) (.lit (n-1)),true),(.eql (.rem (.add y (.lit c)) (.lit n)) (.add (.rem y (.lit n)) (.lit 1)),true)],
     [(.lss y (.lit 0),true),(.eql (.rem y (.lit n)) (.lit (n-1)),false),(.eql (.rem (.add y (.lit c)) (.lit n)) (.lit 0),true)]] else []
   | .lit a=>[[(.eql (.rem (.lit a) (.lit n)) (.lit (a.tmod n)),true)]]
   | _=>[]) else []
 -- (what counts just if there are so many)
 | .mul (.quo x (.lit n)) y=>if 0<n then [[(.lss x (.lit 0),true),(.lss x (.lit n),false),(.eql (.mul (.quo x (.lit n)) y) (.lit 0),true)],
   [(.lss x (.lit n),true),(.lss x (.lit (2*n)),false),(.eql (.mul (.quo x (.lit n)) y) y,true)]] else []
 -- (none of it,or it)
 | .mul a b=>[[(.eql a (.lit 0),false),(.eql (.mul a b) (.lit 0),true)],[(.eql a (.lit 1),false),(.eql (.mul a b) b,true)]]++indC (.mul a b) (isInd a&&isInd b)
 | .quo (.lit a) (.lit b)=>[[(.eql (.quo (.lit a) (.lit b)) (.lit (a.tdiv b)),true)]]
 -- (1 just if it is nought)
 | .quo (.lit (.ofNat 1)) (.add (.mul e e') (.lit (.ofNat 1)))=>if e=e' then [[(.eql e (.lit 0),false),(.eql (.quo (.lit (.ofNat 1)) (.add (.mul e e') (.lit (.ofNat 1)))) (.lit 1),true)],
   [(.eql e (.lit 0),true),(.eql (.quo (.lit (.ofNat 1)) (.add (.mul e e') (.lit (.ofNat 1)))) (.lit 0),true)]] ++
   [[(.lss (.quo (.lit (.ofNat 1)) (.add (.mul e e') (.lit (.ofNat 1)))) (.lit 0),false)],[(.lss (.lit 1) (.quo (.lit (.ofNat 1)) (.add (.mul e e') (.lit (.ofNat 1)))),false)]] else []
 -- (how many: none of none)
 | .cnt c a d=>[[(.lss (.lit 0) d,true),(.eql (.cnt c a d) (.lit 0),true)],[(.lss (.cnt c a d) (.lit 0),false)]]++cntL c a d
 -- (a sum,as one term)
 | .quo x (.lit (.ofNat 1))=>zerosC x
 | _=>[]
def atomsS:SI→List SI
 | .add a b=>atomsS a++atomsS b
 | .sub a b=>atomsS a++atomsS b
 | .mul (.lit _) b=>atomsS b
 | .mul a (.lit _)=>atomsS a
 | .lit _=>[]
 | .var _=>[]
 | a=>[a]
def atomsB:SB→List SI
 | .lss a b=>atomsS a++atomsS b
 | .eql a b=>atomsS a++atomsS b
 | .not a=>atomsB a
 | _=>[]
def addNew (T:List SI):List SI→List SI
 | []=>T
 | a::r=>match idxS a T 0 with
  | some _=>addNew T r
  | none=>addNew (T++[a]) r
structure Stp where
 row:Nat
 e:SI
 a:Int
 b:Int
def thyStp (ss:List Stp):SI→List (List (SB × Bool))
 | .sel k (.row r) j=>(ss.filter fun s=>Nat.beq s.row r).flatMap fun s =>
   [[(.lss j (.lit 0),true),(.lss j s.e,false),(.eql (.sel k (.row r) j) (.lit (k.wrap s.a)),true)],
   [(.lss j (.lit 0),true),(.lss j s.e,true),(.eql (.sel k (.row r) j) (.lit (k.wrap s.b)),true)]]
 | _=>[]
def cong (T:List SI):SI→List (List (SB × Bool))
 | .sel k (.row r) (.lit u)=>T.flatMap fun t=>match t with
  | .sel k' (.row r') (.rem x y)=>if k=k'∧r=r' then [[(.eql (.rem x y) (.lit u),false),(.eql (.sel k' (.row r') (.rem x y)) (.sel k (.row r) (.lit u)),true)]] else []
  | _=>[]
 -- (one more; the same place)
 | .cnt c a d=>T.flatMap fun t=>match t with
  | .cnt c' a' d'=>bif Nat.beq c c'&&eqS a a' then (bif eqS (mkAdd d (.lit 1)) d' then [[(.lss d (.lit 0),true),(.eql (.cnt c' a' d') (.add (.cnt c a d) (cntT c a d)),true)]] else bif eqS d d' then [] else
    [[(.eql d d',false),(.eql (.cnt c a d) (.cnt c' a' d'),true)]]) else []
  | _=>[]
 | .quo x (.lit (.ofNat 1))=>(match sumsL x with
  | m::r=>T.flatMap fun t=>match t with
   | .quo y (.lit (.ofNat 1))=>slidesC x m r y
   | _=>[]
  | []=>[])
 | _=>[]
structure Win where
 n:Nat
 i:Nat
 B:Int
 q:LF
 stop:List (List (List Lit))
 d:Int:=0        -- (so many turns more than the number says)
structure CutΦ where
 tbl:List SI:=[]
 cls:List (List Lit):=[]
 stps:List Stp:=[]
 use:List Nat:=[]
 win:Option Win:=none
def Win.late (w:Win):LF:=((LF.scl w.n w.q).add ([(2*w.i,-1)],w.n-1+w.B-w.d))
def winC:Option Win→List (List Lit)
 | none=>[]
 | some w=>(w.stop.take w.n).flatMap fun cl=>cl.map fun c=>.ge w.late::c
def Win.next (w:Win):SI:=.rem (.add (.var w.i) (.lit 1)) (.lit w.n)
def winT:Option Win→List SI
 | none=>[]
 | some w=>bif decide (w.d=0) then [w.next] else []
noncomputable section
inductive Ct where
 | bot                              -- (it is contradicted already)
 | lin (o:List Nat) (l:List (Nat × Nat))       -- facts,once each,and so many times each: less than nought in all
 | us (l:List Nat) (k:Ct)       -- clauses of which one literal stays
 | case (r:Nat) (l:Ct)          -- each literal of a clause
 | nil
 | alt (a r:Ct)
 | sk (r:Ct)                      -- (a literal that can't be,at a look)
 | keep (r:Ct)                    -- (the literal that stays)
 | neq (q:Nat) (a b:Ct)         -- what is not nought is more,or less
structure FS where
 F:Tr LF
 Q:List (Nat × LF)
 N:List (Nat × Int)
 B:List (Nat × Bool)
 L:Tr Int
 U:Tr Int
 bad:Bool
 M:List LF
def fs0:FS:=⟨.nil,[],[],[],.nil,.nil,false,[]⟩
def isNeg:Int→Bool
 | .ofNat _=>false
 | .negSucc _=>true
def upL (L U:Tr Int):List (Nat × Int)→Int→Option Int
 | [],acc=>some acc
 | (i,c)::r,acc=>match (match c with | .ofNat _=>U.get i | .negSucc _=>L.get i) with
  | some b=>upL L U r (acc+c*b)
  | none=>none
def FS.up (s:FS) (f:LF):Option Int:=upL s.L s.U f.1 f.2
def ltZ:Option Int→Bool
 | some m=>isNeg m
 | none=>false
def leZ:Option Int→Bool
 | some m=>isNeg (m-1)
 | none=>false
def sing (f:LF):Option (Nat × Int):=match f with
 | ([(i,.ofNat 1)],d)=>some (i,-d)
 | ([(i,.negSucc 0)],d)=>some (i,d)
 | _=>none
def FS.ref (s:FS):Lit→Bool
 | .ge f=>ltZ (s.up f)
 | .eq f=>ltZ (s.up f)||ltZ (s.up f.neg)||(match sing f with
  | some p=>s.N.any (fun q=>Nat.beq q.1 p.1&&decide (q.2=p.2))
  | none=>s.Q.any (fun q=>eqF q.2 f||eqF q.2 f.neg))
 | .ne f=>leZ (s.up f)&&leZ (s.up f.neg)
 | .bl i t=>s.B.any (fun p=>Nat.beq p.1 i&&(p.2 != t))
def FS.fail:FS→FS
 | ⟨F,Q,N,B,L,U,_,M⟩=>⟨F,Q,N,B,L,U,true,M⟩
def bumpU (N:List (Nat × Int)) (i:Nat):Nat→Int→Int
 | 0,k=>k
 | n+1,k=>bif N.any (fun p=>Nat.beq p.1 i&&decide (p.2=k)) then bumpU N i n (k+1) else k
def bumpD (N:List (Nat × Int)) (i:Nat):Nat→Int→Int
 | 0,k=>k
 | n+1,k=>bif N.any (fun p=>Nat.beq p.1 i&&decide (p.2=k)) then bumpD N i n (k-1) else k
def frcN {R:Type} (x:Nat) (k:Nat→R):R:=@Nat.rec (fun _=>R) (k 0) (fun m _=>k (Nat.succ m)) x
def frcI {R:Type} (x:Int) (k:Int→R):R:=match x with
 | .ofNat n=>frcN n fun m=>k (.ofNat m)
 | .negSucc n=>frcN n fun m=>k (.negSucc m)
def FS.putL:FS→Nat→Int→FS
 | ⟨F,Q,N,B,L,U,bad,M⟩,i,k=>frcI (bumpU N i 20 k) fun k=>bif (match U.get i with | some u=>isNeg (u-k) | none=>false) then ⟨F,Q,N,B,L.set i k,U,true,M⟩ else ⟨F,Q,N,B,L.set i k,U,bad,M⟩
def FS.putU:FS→Nat→Int→FS
 | ⟨F,Q,N,B,L,U,bad,M⟩,i,k=>frcI (bumpD N i 20 k) fun k=>bif (match L.get i with | some l=>isNeg (k-l) | none=>false) then ⟨F,Q,N,B,L,U.set i k,true,M⟩ else ⟨F,Q,N,B,L,U.set i k,bad,M⟩
def FS.setL:FS→Nat→Int→FS
 | ⟨F,Q,N,B,L,U,bad,M⟩,i,k=>bif (match L.get i with | some l=>isNeg (l-k) | none=>true) then FS.putL ⟨F,Q,N,B,L,U,bad,M⟩ i k else ⟨F,Q,N,B,L,U,bad,M⟩
def FS.setU:FS→Nat→Int→FS
 | ⟨F,Q,N,B,L,U,bad,M⟩,i,k=>bif (match U.get i with | some u=>isNeg (k-u) | none=>true) then FS.putU ⟨F,Q,N,B,L,U,bad,M⟩ i k else ⟨F,Q,N,B,L,U,bad,M⟩
def FS.more:FS→Nat→LF→FS
 | ⟨F,Q,N,B,L,U,bad,M⟩,key,f=>⟨F.set key f,Q,N,B,L,U,bad,f::M⟩
def FS.addGe (s:FS) (key:Nat) (f:LF):FS:=match f with
 | ([],d)=>bif isNeg d then s.fail else s
 | ([(i,.ofNat (c+1))],d)=>s.setL i (-(d / ((c+1:Nat):Int)))
 | ([(i,.negSucc c)],d)=>s.setU i (d / ((c+1:Nat):Int))
 | f=>s.more key f
def FS.notE:FS→Nat→Int→FS
 | ⟨F,Q,N,B,L,U,bad,M⟩,i,k=>⟨F,Q,(i,k)::N,B,L,U,bad,M⟩
def FS.atL (s:FS) (i:Nat) (k:Int):Bool:=match s.L.get i with | some l=>decide (l=k) | none=>false
def FS.atU (s:FS) (i:Nat) (k:Int):Bool:=match s.U.get i with | some l=>decide (l=k) | none=>false
def FS.upL1 (s:FS) (i:Nat) (k:Int):FS:=bif s.atL i k then s.setL i (k+1) else s
def FS.dnU1 (s:FS) (i:Nat) (k:Int):FS:=bif s.atU i k then s.setU i (k-1) else s
def FS.addN (s:FS) (i:Nat) (k:Int):FS:=((s.notE i k).upL1 i k).dnU1 i k
def FS.addQ:FS→Nat→LF→FS
 | ⟨F,Q,N,B,L,U,bad,M⟩,key,f=>⟨F,(key,f)::Q,N,B,L,U,bad,M⟩
def FS.addB:FS→Nat→Bool→FS
 | ⟨F,Q,N,B,L,U,bad,M⟩,i,t=>⟨F,Q,N,(i,t)::B,L,U,bad,M⟩
def FS.add (s:FS) (key:Nat):Lit→FS
 | .ge f=>s.addGe key f
 | .eq f=>(s.addGe key f).addGe (key+1) f.neg
 | .ne f=>match sing f with
  | some p=>s.addN p.1 p.2
  | none=>s.addQ key f
 | .bl i t=>s.addB i t
def FS.push (s:FS) (key:Nat) (l:Lit):FS:=bif s.ref l then s.fail else s.add key l
def factOf (s:FS) (r:Nat):Option LF:=match r % 3 with
 | 0=>s.F.get (r / 3)
 | 1=>(match s.L.get (r / 3) with | some k=>some ([(r / 3,1)],-k) | none=>none)
 | _=>(match s.U.get (r / 3) with | some k=>some ([(r / 3,-1)],k) | none=>none)
def sumO (s:FS):List Nat→LF→Option LF
 | [],acc=>some acc
 | p::l,acc=>match factOf s p with
  | some f=>sumO s l (f.add acc)
  | none=>none
def sumC (s:FS):List (Nat × Nat)→LF→Option LF
 | [],acc=>some acc
 | p::l,acc=>match factOf s p.1 with
  | some f=>sumC s l ((LF.scl p.2 f).add acc)
  | none=>none
def linC (s:FS) (o:List Nat) (l:List (Nat × Nat)):Bool:=match sumO s o ([],0) with
 | some f=>(match sumC s l f with
  | some g=>ltZ (s.up g)
  | none=>false)
 | none=>false
def decF (f:LF):LF:=(f.1,f.2-1)
def alive (s:FS):List Lit→List Lit
 | []=>[]
 | l::c=>bif s.ref l then alive s c else l::alive s c
def unitL (s:FS) (key:Nat) (c:List Lit):FS:=match alive s c with
 | []=>s.fail
 | [l]=>bif s.ref (Lit.not l) then s else s.add key l
 | _=>s
def bndC (L U:Tr Int) (i:Nat):Int→Option Int
 | .ofNat _=>U.get i
 | .negSucc _=>L.get i
def upM (L U:Tr Int):List (Nat × Int)→Int→Option (Nat × Int)→Option (Int × Option (Nat × Int))
 | [],acc,o=>some (acc,o)
 | (i,c)::r,acc,o=>match bndC L U i c with
  | some b=>upM L U r (acc+c*b) o
  | none=>match o with
   | none=>upM L U r acc (some (i,c))
   | some _=>none
def prop1 (L U:Tr Int) (t:Int) (s:FS) (i:Nat):Int→FS
 | .ofNat 0=>s
 | .ofNat (c+1)=>match U.get i with
  | some u=>s.setL i (u-t / ((c+1:Nat):Int))
  | none=>s
 | .negSucc c=>match L.get i with
  | some l=>s.setU i (l+t / ((c+1:Nat):Int))
  | none=>s
def propG (L U:Tr Int) (t:Int):List (Nat × Int)→FS→FS
 | [],s=>s
 | (i,c)::r,s=>propG L U t r (prop1 L U t s i c)
def propF (s:FS) (f:LF):FS:=match upM s.L s.U f.1 f.2 none with
 | none=>s
 | some (t,some p)=>s.addGe 0 ([p],t)
 | some (t,none)=>bif isNeg t then s.fail else frcI t fun t=>propG s.L s.U t f.1 s
def propM:List LF→FS→FS
 | [],s=>s
 | f::l,s=>propM l (propF s f)
def unit1 (g:Nat→Option (List Lit)) (s:FS) (r:Nat):FS:=bif Nat.beq r 7 then propM s.M s else match g r with
 | some c=>unitL s (2*r) c
 | none=>s
def units (g:Nat→Option (List Lit)):List Nat→FS→FS
 | [],s=>s
 | r::l,s=>units g l (unit1 g s r)
def chk (g:Nat→Option (List Lit)):Ct→Option (Nat × List Lit)→FS→Bool
 | .bot,none,s=>s.bad
 | .lin o l,none,s=>linC s o l
 | .us l k,none,s=>match units g l s with
  | s'=>s'.bad||chk g k none s'
 | .case r l,none,s=>match g r with
  | some c=>chk g l (some (2*r,c)) s
  | none=>false
 | .neq q a b,none,s=>match s.Q.find? (fun p=>Nat.beq p.1 q) with
  | some (_,f)=>(match s.push (2*(8*q+7)) (.ge (decF f)) with | s'=>s'.bad||chk g a none s')&&(match s.push (2*(8*q+7)) (.ge (decF f.neg)) with | s'=>s'.bad||chk g b none s')
  | none=>false
 | .alt a r,some (q,l::c),s=>(match s.push q l with | s'=>s'.bad||chk g a none s')&&chk g r (some (q,c)) s
 | .sk r,some (q,l::c),s=>s.ref l&&chk g r (some (q,c)) s
 | .nil,some (_,[]),_=>true
 | _,_,_=>false
def unitC (g:Nat→Option (List Lit)):Ct→Nat→List Lit→FS→Option Lit
 | .alt a r,q,l::c,s=>bif (match s.push q l with | s'=>s'.bad||chk g a none s') then unitC g r q c s else none
 | .sk r,q,l::c,s=>bif s.ref l then unitC g r q c s else none
 | .keep r,q,l::c,s=>bif chk g r (some (q,c)) s then some l else none
 | _,_,_,_=>none
inductive St where
 | asms                             -- the facts of the way
 | pass                             -- all clauses of the law,one behind the other
 | ext (r:Nat)                    -- (the terms of a clause come in)
 | us (l:List Nat)
 | unit (r:Nat) (l:Ct)          -- a literal of a clause stays
 | hav (i:Nat) (f:LF) (c:Ct)  -- something that follows
 | prods                            -- what counts just if there are so many,by bounds
def refThy (a:CutΦ) (T:List SI) (r:Nat):Option (List (SB × Bool)):=match T[r / 32]? with
 | some t=>(thy t++thyStp a.stps t++cong T t)[r % 32]?
 | none=>none
def getC (a:CutΦ) (T:List SI) (hyp:List (List Lit)) (r:Nat):Option (List Lit):=match r % 8 with
 | 0=>a.cls[r / 8]?
 | 1=>(winC a.win)[r / 8]?
 | 2=>match refThy a T (r / 8) with
  | some c=>clsS T c
  | none=>none
 | _=>hyp[r / 8]?
def atomsC (c:List (SB × Bool)):List SI:=c.flatMap fun p=>atomsB p.1
def asmT (T:List SI):List (SB × Bool)→List SI
 | []=>T
 | p::r=>asmT (addNew T (atomsB p.1)) r
def thyT (a:CutΦ) (T:List SI) (q:Nat):List SI:=bif Nat.beq (q % 8) 2 then (match refThy a T (q / 8) with
  | some c=>addNew T (atomsC c)
  | none=>T) else T
def thysT (a:CutΦ) (T:List SI):List Nat→List SI
 | []=>T
 | q::r=>thysT a (thyT a T q) r
def extT (a:CutΦ) (asm:List (SB × Bool)):List St→List SI→List SI
 | [],T=>T
 | .asms::r,T=>extT a asm r (asmT T asm)
 | .pass::r,T=>extT a asm r T
 | .ext q::r,T=>extT a asm r (thyT a T q)
 | .us l::r,T=>extT a asm r (thysT a T l)
 | .unit q _::r,T=>extT a asm r (thyT a T q)
 | .hav _ _ _::r,T=>extT a asm r T
 | .prods::r,T=>extT a asm r T
def runA (T:List SI):Nat→List (SB × Bool)→FS→FS
 | _,[],s=>s
 | i,p::r,s=>match litS T p.1 p.2 with
  | some l=>runA T (i+1) r (s.push (2*(8*i+4)) l)
  | none=>runA T (i+1) r s
def passC (k:Nat):Nat→List (List Lit)→FS→FS
 | _,[],s=>s
 | i,c::r,s=>passC k (i+1) r (unitL s (2*(8*i+k)) c)
def bndX (L U:Tr Int):SI→Option (Int × Int)
 | .lit c=>some (c,c)
 | .var r=>(match L.get (2*r),U.get (2*r) with
  | some l,some u=>some (l,u)
  | _,_=>none)
 | .add (.var r) (.lit c)=>(match L.get (2*r),U.get (2*r) with
  | some l,some u=>some (l+c,u+c)
  | _,_=>none)
 | _=>none
def prodA (T:List SI) (i:Nat) (x:SI) (n:Int) (y:SI):FS→FS
 | ⟨F,Q,N,B,L,U,bad,M⟩=>match bndX L U x with
  | some (l,u)=>bif decide (0<n∧0≤l) then (bif decide (u<n) then ⟨F,Q,N,B,L.set (2*i+1) 0,U.set (2*i+1) 0,bad,M⟩ else
    bif decide (n≤l∧u<2*n) then (match linS T y with
     | some f=>FS.add ⟨F,Q,N,B,L,U,bad,M⟩ (2*(8*(32*i+1)+2)) (.eq (LF.add ([(2*i+1,1)],0) f.neg))
     | none=>⟨F,Q,N,B,L,U,bad,M⟩) else ⟨F,Q,N,B,L,U,bad,M⟩) else ⟨F,Q,N,B,L,U,bad,M⟩
  | none=>⟨F,Q,N,B,L,U,bad,M⟩
def prod1 (T:List SI) (i:Nat) (t:SI) (s:FS):FS:=match t with
 | .mul (.quo x (.lit n)) y=>prodA T i x n y s
 | _=>s
def prodsA (T:List SI):Nat→List SI→FS→FS
 | _,[],s=>s
 | i,t::l,s=>prodsA T (i+1) l (prod1 T i t s)
def runS (a:CutΦ) (g:Nat→Option (List Lit)) (asm:List (SB × Bool)) (T:List SI):List St→FS→Option FS
 | [],s=>some s
 | .asms::r,s=>runS a g asm T r (runA T 0 asm s)
 | .pass::r,s=>runS a g asm T r (passC 1 0 (winC a.win) (passC 0 0 a.cls s))
 | .ext _::r,s=>runS a g asm T r s
 | .us l::r,s=>runS a g asm T r (units g l s)
 | .unit q l::r,s=>match g q with
  | some c=>(match unitC g l (2*q) c s with
   | some x=>runS a g asm T r (s.push (2*q) x)
   | none=>none)
  | none=>none
 | .prods::r,s=>runS a g asm T r (prodsA T 0 T s)
 | .hav i f c::r,s=>bif (match s.push (2*(8*i+6)) (.ge (decF f.neg)) with | s'=>s'.bad||chk g c none s') then runS a g asm T r (s.push (2*(8*i+6)) (.ge f)) else none
def pushN (s:FS):Nat→List Lit→FS
 | _,[]=>s
 | p,l::r=>pushN (s.push (2*(8*p+5)) (Lit.not l)) (p+1) r
def goalC (g:Nat→Option (List Lit)) (s:FS) (c:List Lit) (k:Ct):Bool:=match pushN s 0 c with
 | s'=>s'.bad||chk g k none s'
def goalI (g:Nat→Option (List Lit)) (s:FS) (r:Nat) (c:List Lit) (k:Ct):Bool:=match pushN s 0 c with
 | s'=>s'.bad||(match unit1 g s' r with | s2=>s2.bad||chk g k none s2)
def nextP (p:Nat):Ct→Nat
 | .us [r] _=>bif Nat.beq (r % 8) 0 then r / 8+1 else p+1
 | _=>p+1
structure UC where
 A:List Ct:=[]
 off:Option Ct:=none
 B:List Ct:=[]
inductive WC where
 | non
 | early (a b:Ct)
 | prog (i q:Ct) (u:Nat) (e no:Ct)
 | idle (i q:Ct) (l:List UC)
 | same (q:Ct) (l:List (List Ct))   -- no turn was taken
structure Mo where
 b:SB
 t:Bool
 pre:List St
 k:Ct
structure LC where
 pre:List St:=[]
 off:Option Ct:=none
 cls:List (Nat × Ct):=[]
 stp:List (List Ct):=[]
 win:WC:=.non
 more:List Mo:=[]
 fix:List (Nat × Int):=[]
def sameAt (T:List SI) (j:Nat) (a:SI):Bool:=match T[j]? with
 | some x=>eqS x a
 | none=>false
def newAt:List SI→List SI→List SI
 | x::l,y::r=>bif eqS x y||(match l with | z::_=>eqS z y | []=>false) then newAt l r else y::newAt l r
 | _,r=>r
def subId (G:Ctx) (σ:Sub) (T TB:List SI) (n:Nat):Option LF :=
 bif Nat.beq (n % 2) 0 then linS T (nthS σ.ints (.lit 0) (n / 2)) else match TB[n / 2]? with
  | some a=>bif sameAt T (n / 2) a then some ([(n,1)],0) else bif sameAt T (n / 2+1) a then some ([(n+2,1)],0) else linS T a
  | none=>none
def gTr (F:Nat→Option LF):List Nat→Tr (Option LF)
 | []=>.nil
 | n::r=>(gTr F r).set n (F n)
def subL (g:Tr (Option LF)):List (Nat × Int)→Option LF
 | []=>some ([],0)
 | (i,c)::r=>match g.get i,subL g r with
  | some (some f),some h=>some ((f.scl c).add h)
  | _,_=>none
def sameN (g:Tr (Option LF)) (n:Nat):Bool:=match g.get n with
 | some (some f)=>eqF f ([(n,1)],0)
 | _=>false
def subF (g:Tr (Option LF)) (f:LF):Option LF:=match subL g f.1 with
 | some h=>some (h.1,h.2+f.2)
 | none=>none
def subLit (T:List SI) (bools:List SB) (g:Tr (Option LF)):Lit→Option Lit
 | .ge f=>(subF g f).map .ge
 | .eq f=>(subF g f).map .eq
 | .ne f=>(subF g f).map .ne
 | .bl i t=>litS T (nthT bools (.lit false) i) t
def subC (T:List SI) (bools:List SB) (g:Tr (Option LF)):List Lit→Option (List Lit)
 | []=>some []
 | x::r=>match subLit T bools g x,subC T bools g r with
  | some y,some l=>some (y::l)
  | _,_=>none
def sameLit (bools:List SB) (g:Tr (Option LF)):Lit→Bool
 | .bl i _=>decide (nthT bools (.lit false) i=.var i)
 | l=>l.ids.all (sameN g)
def clsK (G:Nat→Option (List Lit)) (s:FS) (eq:Bool) (T:List SI) (bools:List SB) (g:Tr (Option LF)):Nat→Nat→List (List Lit)→List (Nat × Ct)→Bool
 | _,_,[],_=>true
 | i,p,c::r,ks=>bif eq&&c.all (sameLit bools g) then clsK G s eq T bools g (i+1) (p+1) r ks else match subC T bools g c with
  | some c'=>(match ks with
   | (j,k)::ks'=>bif Nat.beq i j then goalI G s (8*p) c' k&&clsK G s eq T bools g (i+1) (nextP p k) r ks' else goalI G s (8*p) c' .bot&&clsK G s eq T bools g (i+1) (p+1) r ks
   | []=>goalI G s (8*p) c' .bot&&clsK G s eq T bools g (i+1) (p+1) r ks)
  | none=>false
def findStp (r:Nat) (x y:Int):List Stp→Option Stp
 | []=>none
 | u::l=>bif Nat.beq u.row r&&decide (u.a=x)&&decide (u.b=y) then some u else findStp r x y l
def stpK1 (G:Nat→Option (List Lit)) (s:FS) (a:CutΦ) (T:List SI) (row e:SI) (t:Stp) (ks:List Ct):Bool:=match linS T e with
 | none=>false
 | some e=>match row,ks with
  | .con z,[k]=>decide (z=t.b)&&goalC G s [.ge e.neg] k
  | .row r,[k]=>(match findStp r t.a t.b a.stps with
   | some u=>(match linS T u.e with
    | some f=>goalC G s [.eq (e.add f.neg)] k
    | none=>false)
   | none=>false)
  | .upd (.row r) i v,[k1,k2,k3]=>(match findStp r t.a t.b a.stps with
   | some u=>(match linS T u.e,linS T i,linS T v with
    | some f,some i,some v=>goalC G s [.eq (i.add f.neg)] k1&&goalC G s [.eq (v.1,v.2-t.a)] k2&&goalC G s [.eq (e.add (decF f.neg))] k3
    | _,_,_=>false)
   | none=>false)
  | _,_=>false
def stpK (G:Nat→Option (List Lit)) (s:FS) (a:CutΦ) (T rows SE:List SI):List Stp→List (List Ct)→Bool
 | [],_=>true
 | t::r,k::ks=>(match SE with
  | e::SE=>stpK1 G s a T (nthS rows (.con 0) t.row) e t k&&stpK G s a T rows SE r ks
  | []=>false)
 | _::_,[]=>false
def allK (G:Nat→Option (List Lit)) (s:FS) (h:List Lit) (T:List SI) (bools:List SB) (g:Tr (Option LF)):Nat→List (List Lit)→List Ct→Bool
 | _,[],_=>true
 | i,c::r,k::ks=>(match subC T bools g c with
  | some c'=>goalI G s (8*i+3) (h++c') k
  | none=>false)&&allK G s h T bools g (i+1) r ks
 | i,c::r,[]=>(match subC T bools g c with
  | some c'=>goalI G s (8*i+3) (h++c') .bot
  | none=>false)&&allK G s h T bools g (i+1) r []
def stopK (G H:Nat→Option (List Lit)) (s:FS) (eq:Bool) (T:List SI) (bools:List SB) (g:Tr (Option LF)) (off:Lit) (cb:List (List Lit)) (k:UC):Bool :=
 ((eq&&cb.all (fun c=>c.all (sameLit bools g)))||allK H (s.push 251 off) [] T bools g 0 cb k.A) &&
 (match k.off with
 | some o=>goalC G s [off] o
 | none=>allK G s [off] T bools g 0 cb k.B)
def stopsK (a:CutΦ) (v w:Win) (s:FS) (eq:Bool) (T:List SI) (bools:List SB) (g:Tr (Option LF)) (x:LF):Nat→List UC→Bool
 | _,[]=>true
 | u,k::ks=>(match v.stop[u]?,w.stop[u]? with
  | some ca,some cb=>stopK (getC a T []) (getC a T ca) s eq T bools g (.ne (x.1,x.2-u)) cb k
  | _,_=>false)&&stopsK a v w s eq T bools g x (u+1) ks
def samesK (a:CutΦ) (v w:Win) (s:FS) (T:List SI) (bools:List SB) (g:Tr (Option LF)):Nat→List (List Ct)→Bool
 | _,[]=>true
 | u,k::ks=>(match v.stop[u]?,w.stop[u]? with
  | some ca,some cb=>allK (getC a T ca) s [] T bools g 0 cb k
  | _,_=>false)&&samesK a v w s T bools g (u+1) ks
def winK (a:CutΦ) (b:Option Win) (eq:Bool) (σ:Sub) (T:List SI) (g:Tr (Option LF)) (s:FS) (k:WC):Bool:=match b with
 | none=>true
 | some w=>match subF g w.q,(match linS T (nthS σ.ints (.lit 0) w.i) with | some f=>some (f.1,f.2+w.d) | none=>none:Option LF) with
  | some q,some i=>(match k with
   | .early k1 k2=>goalC (getC a T []) s [.ge (i.neg.1,i.neg.2+w.B)] k1&&goalC (getC a T []) s [.ge q] k2
   | .non=>false
   | .same kq l=>(match a.win with
    | none=>false
    | some v=>decide (v.n=w.n)&&decide (v.B=w.B)&&eqF i ([(2*v.i,1)],v.d)&&goalC (getC a T []) s [.ge (q.add v.q.neg)] kq&&Nat.beq l.length v.n&&samesK a v w s T σ.bools g 0 l)
   | k=>match a.win with
    | none=>false
    | some v=>match linS T v.next with
     | none=>false
     | some x=>decide (v.n=w.n)&&decide (0<v.n)&&decide (v.B=w.B)&&decide (v.d=0)&&eqF i ([(2*v.i,1)],1)&&(match k with
      | .prog ki kq u ke kn=>goalC (getC a T []) s [.ge ([(2*v.i,1)],1)] ki&&goalC (getC a T []) s [.ge (q.add (decF v.q.neg))] kq&&Nat.blt u v.n&&goalC (getC a T []) s [.eq (x.1,x.2-u)] ke&&(match v.stop[u]? with
       | some c=>(s.bad||chk (getC a T c) kn none s)
       | none=>false)
      | .idle ki kq l=>goalC (getC a T []) s [.ge ([(2*v.i,1)],1)] ki&&goalC (getC a T []) s [.ge (q.add v.q.neg)] kq&&Nat.beq l.length v.n&&stopsK a v w s eq T σ.bools g x 0 l
      | _=>false))
  | _,_=>false
def extraK (b:CutΦ) (σ:Sub) (TB SE:List SI):List SI :=
 (b.use.flatMap fun n=>bif Nat.beq (n % 2) 0 then atomsS (nthS σ.ints (.lit 0) (n / 2)) else [])++TB.flatMap atomsS++SE.flatMap atomsS ++
  b.stps.flatMap fun t=>match nthS σ.rows (.con 0) t.row with | .upd _ i v=>atomsS i++atomsS v | _=>[]
def rngFS:Nat→List (Option (Int × Int))→FS→FS
 | _,[],s=>s
 | j,some q::r,⟨F,Q,N,B,L,U,bad,M⟩=>rngFS (j+1) r ⟨F,Q,N,B,L.set (2*j) q.1,U.set (2*j) q.2,bad,M⟩
 | j,none::r,s=>rngFS (j+1) r s
def fixI (l:List (Nat × Int)) (i:Nat):SI:=match l with
 | []=>.var i
 | p::r=>bif Nat.beq p.1 i then .lit p.2 else fixI r i
def fixS (l:List (Nat × Int)):SI→SI
 | .var i=>fixI l i
 | .add a b=>mkAdd (fixS l a) (fixS l b)
 | .sub a b=>mkSub (fixS l a) (fixS l b)
 | .mul a b=>mkMul (fixS l a) (fixS l b)
 | .quo a b=>.quo (fixS l a) (fixS l b)
 | .rem a b=>.rem (fixS l a) (fixS l b)
 | .sel k a i=>.sel k a (fixS l i)
 | .cnt c a d=>.cnt c a (fixS l d)
 | a=>a
def dupsA (T:List SI):Nat→List SI→List (Nat × Nat)
 | _,[]=>[]
 | j,a::r=>match idxS a T 0 with
  | some i=>bif Nat.beq i j then dupsA T (j+1) r else (2*j+1,2*i+1)::dupsA T (j+1) r
  | none=>dupsA T (j+1) r
def renN:List (Nat × Nat)→Nat→Nat
 | [],n=>n
 | p::r,n=>bif Nat.beq p.1 n then p.2 else renN r n
def renS (D:List (Nat × Nat)):List (Nat × Int)→List (Nat × Int)
 | []=>[]
 | p::r=>mrg 400 [(renN D p.1,p.2)] (renS D r)
def renL (D:List (Nat × Nat)):Lit→Lit
 | .ge f=>.ge (renS D f.1,f.2)
 | .eq f=>.eq (renS D f.1,f.2)
 | .ne f=>.ne (renS D f.1,f.2)
 | .bl i t=>.bl i t
def renC (D:List (Nat × Nat)) (cs:List (List Lit)):List (List Lit):=match D with
 | []=>cs
 | p::r=>cs.map fun c=>c.map (renL (p::r))
def CutΦ.withT (a:CutΦ) (T:List SI) (D:List (Nat × Nat)):CutΦ:={ tbl:=T,cls:=renC D a.cls++D.map (fun p=>[.eq ([(p.1,1),(p.2,-1)],0)]),stps:=a.stps,use:=a.use,win:=a.win }
def CutΦ.fixed (a:CutΦ) (l:List (Nat × Int)):CutΦ:=match a.tbl.map (fixS l) with
 | T=>a.withT T (dupsA T 0 T)
def fixB (G:Ctx):List (Nat × Int)→Bool
 | []=>true
 | p::r=>(match (SB.eql (.var p.1) (.lit p.2)).know G with
  | some t=>t
  | none=>false)&&fixB G r
def CutΦ.tstK (a b:CutΦ) (eq:Bool) (G:Ctx) (σ:Sub) (k:LC):Bool :=
 match b.tbl.map (fun t=>t.subst G σ),b.stps.map (fun t=>t.e.subst G σ) with
 | TB,SE=>match extT a G.asm k.pre (addNew a.tbl (winT a.win++extraK b σ (newAt a.tbl TB) SE)) with
 | T=>match runS a (getC a T []) G.asm T k.pre (rngFS 0 G.rng fs0) with
  | none=>false
  | some s=>match gTr (subId G σ T TB) b.use with
   | g=>clsK (getC a T []) s eq T σ.bools g 0 0 b.cls k.cls&&stpK (getC a T []) s a T σ.rows SE b.stps k.stp&&winK a b.win eq σ T g s k.win
def CutΦ.nevK (a:CutΦ) (G:Ctx) (k:LC):Bool:=match k.off with
 | none=>false
 | some c=>match extT a G.asm k.pre (addNew a.tbl (winT a.win)) with
  | T=>match runS a (getC a T []) G.asm T k.pre (rngFS 0 G.rng fs0) with
   | none=>false
   | some s=>s.bad||chk (getC a T []) c none s
end
def sumV (v:Nat→Int):List (Nat × Int)→Int
 | []=>0
 | (i,c)::r=>c*v i+sumV v r
def LF.val (v:Nat→Int) (f:LF):Int:=sumV v f.1+f.2
def Lit.holds (v:Nat→Int) (b:Nat→Bool):Lit→Prop
 | .ge f=>0≤f.val v
 | .eq f=>f.val v=0
 | .ne f=>f.val v≠0
 | .bl i t=>b i=t
def Some (v:Nat→Int) (b:Nat→Bool) (c:List Lit):Prop:=∃ l ∈ c,l.holds v b
def All (v:Nat→Int) (b:Nat→Bool) (cs:List (List Lit)):Prop:=∀ c ∈ cs,Some v b c
variable {v:Nat→Int} {b:Nat→Bool}
theorem sumV_app:∀ {x y:List (Nat × Int)},sumV v (x++y)=sumV v x+sumV v y
 | [],y=>by simp [sumV]
 | (i,c)::r,y=>by simp only[List.cons_append,sumV]; rw[sumV_app (x:=r)]; omega
theorem mrg_val:∀ (n:Nat) (x y:List (Nat × Int)),sumV v (mrg n x y)=sumV v x+sumV v y
 | 0,x,y=>sumV_app
 | _+1,[],y=>by simp [mrg,sumV]
 | _+1,x::a,[]=>by simp [mrg,sumV]
 | n+1,(i,c)::x,(j,d)::y=>by
  simp only[mrg]
  cases h1:Nat.blt j i
  ·cases h2:Nat.blt i j
   ·simp only[cond_false]
    split
    ·rename_i e
     subst e
     have hd:(c+d)*v i=c*v i+d*v i:=Int.add_mul _ _ _
     split
     ·rename_i e
      rw[e,Int.zero_mul] at hd
      simp only[sumV]
      rw[mrg_val n x y]; omega
     ·simp only[sumV]
      rw[mrg_val n x y]; omega
    ·simp only[sumV]; rw[sumV_app]; omega
   ·simp only[cond_false,cond_true,sumV]
    rw[mrg_val n]; simp only[sumV]; omega
  ·simp only[cond_true,sumV]
   rw[mrg_val n]; simp only[sumV]; omega
theorem sclL_val (k:Int):∀ x:List (Nat × Int),sumV v (sclL k x)=k*sumV v x
 | []=>by simp [sclL,sumV]
 | (i,c)::r=>by simp only[sclL,sumV]; rw[sclL_val k r,Int.mul_add,Int.mul_assoc]
theorem scl_val (k:Int) (f:LF):(LF.scl k f).val v=k*f.val v:=by
 simp only[LF.scl,LF.val]; rw[sclL_val,Int.mul_add]
theorem mulF_val (k:Int) (f:LF):(mulF k f).val v=k*f.val v:=by
 unfold mulF
 split
 ·rename_i h; subst h; simp [LF.val,sumV]
 ·exact scl_val k f
theorem add_val (f g:LF):(LF.add f g).val v=f.val v+g.val v:=by
 simp only[LF.add,LF.val]; rw[mrg_val]; omega
theorem neg_val (f:LF):(LF.neg f).val v =-f.val v:=by
 simp only[LF.neg]; rw[scl_val]; omega
theorem val_shift (f:LF) (d:Int):LF.val v (f.1,f.2-d)=f.val v-d:=by simp only[LF.val]; omega
theorem eqL_ok:∀ {x y:List (Nat × Int)},eqL x y=true→x=y
 | [],[],_=>rfl
 | (i,c)::a,(j,d)::b,h=>by
  simp only[eqL,Bool.and_eq_true,decide_eq_true_eq] at h
  rw[Nat.eq_of_beq_eq_true h.1.1,h.1.2,eqL_ok h.2]
 | [],_::_,h=>by simp [eqL] at h
 | _::_,[],h=>by simp [eqL] at h
theorem eqF_ok {f g:LF}(h:eqF f g=true):f=g:=by
 simp only[eqF,Bool.and_eq_true,decide_eq_true_eq] at h
 exact Prod.ext (eqL_ok h.2) h.1
theorem not_holds {l:Lit}:(Lit.not l).holds v b↔¬ l.holds v b:=by
 cases l with
 | ge f=>simp only[Lit.not,Lit.holds,val_shift,neg_val]; omega
 | eq f=>exact Iff.rfl
 | ne f=>simp only[Lit.not,Lit.holds,Decidable.not_not]
 | bl i t=>simp only[Lit.not,Lit.holds]; cases b i <;> cases t <;> simp
variable {E:Env} {G:Ctx}
def vOf (E:Env) (T:List SI) (n:Nat):Int:=if n % 2=0 then E.int (n / 2) else (T.getD (n / 2) (.lit 0)).den E
theorem eqS_ok:∀ {a b:SI},eqS a b=true→a=b:=by
 intro a
 induction a with
 | lit n=>intro b h; cases b <;> simp [eqS] at h; rw[h]
 | var n=>intro b h; cases b <;> simp [eqS] at h; rw[h]
 | row n=>intro b h; cases b <;> simp [eqS] at h; rw[h]
 | con n=>intro b h; cases b <;> simp [eqS] at h; rw[h]
 | add x y hx hy=>intro b h; cases b <;> simp [eqS] at h; rw[hx h.1,hy h.2]
 | sub x y hx hy=>intro b h; cases b <;> simp [eqS] at h; rw[hx h.1,hy h.2]
 | cnt c x y hx hy =>
  intro b h
  cases b <;> simp only[eqS,Bool.and_eq_true,Bool.false_eq_true] at h
  rw[Nat.eq_of_beq_eq_true h.1.1,hy h.1.2,hx h.2]
 | mul x y hx hy=>intro b h; cases b <;> simp [eqS] at h; rw[hx h.1,hy h.2]
 | quo x y hx hy=>intro b h; cases b <;> simp [eqS] at h; rw[hx h.1,hy h.2]
 | rem x y hx hy=>intro b h; cases b <;> simp [eqS] at h; rw[hx h.1,hy h.2]
 | wrap k x hx=>intro b h; cases b <;> simp [eqS] at h; rw[h.1,hx h.2]
 | sel k x i hx hi=>intro b h; cases b <;> simp [eqS] at h; rw[h.1.1,hx h.2,hi h.1.2]
 | upd x i v hx hi hv=>intro b h; cases b <;> simp [eqS] at h; rw[hx h.2,hi h.1.1,hv h.1.2]
 | _=>intro b h; cases b <;> simp [eqS] at h
theorem idxS_ok {a:SI}:∀ {T:List SI}{n j:Nat},idxS a T n=some j→∃ i,j=n+i∧T[i]?=some a
 | [],_,_,h=>by simp [idxS] at h
 | x::r,n,j,h=>by
  simp only[idxS] at h
  cases e:eqS x a
  ·rw[e,cond_false] at h
   obtain⟨i,h1,h2⟩:=idxS_ok h
   exact⟨i+1,by omega,by simpa using h2⟩
  ·rw[e,cond_true] at h; cases h; exact⟨0,rfl,by simp [eqS_ok e]⟩
theorem val_one (v:Nat→Int) (i:Nat):LF.val v ([(i,1)],0)=v i:=by simp [LF.val,sumV]
theorem vOf_even (E:Env) (T:List SI) (i:Nat):vOf E T (2*i)=E.int i:=by
 unfold vOf; rw[if_pos (by omega),show 2*i / 2=i by omega]
theorem vOf_odd {E:Env}{T:List SI}{n:Nat}{a:SI}(h:¬ n % 2=0) (ha:T[n / 2]?=some a):vOf E T n=a.den E:=by
 unfold vOf; rw[if_neg h]; simp [List.getD,ha]
theorem atomF_ok {T:List SI}{a:SI}{f:LF}(h:atomF T a=some f):f.val (vOf E T)=a.den E:=by
 unfold atomF at h
 split at h
 ·rename_i j e
  obtain⟨i,h1,h2⟩:=idxS_ok e
  cases h
  rw[val_one]
  exact vOf_odd (by omega) (by rw[show (2*j+1) / 2=i by omega]; exact h2)
 ·simp at h
theorem linS_ok {T:List SI}(a:SI):∀ {f:LF},linS T a=some f→f.val (vOf E T)=a.den E:=by
 induction a with
 | lit n=>intro f h; simp only[linS,Option.some.injEq] at h; subst h; simp [LF.val,sumV,SI.den]
 | var i=>intro f h; simp only[linS,Option.some.injEq] at h; subst h; rw[val_one,vOf_even]; rfl
 | add a b iha ihb =>
  intro f h
  simp only[linS] at h
  split at h
  ·rename_i x y e1 e2
   cases h
   rw[add_val,iha e1,ihb e2]; rfl
  ·simp at h
 | sub a b iha ihb =>
  intro f h
  simp only[linS] at h
  split at h
  ·rename_i x y e1 e2
   cases h
   rw[add_val,neg_val,iha e1,ihb e2]; simp only[SI.den]; omega
  ·simp at h
 | mul a b iha ihb =>
  intro f h
  simp only[linS] at h
  split at h
  ·rename_i c y e1 e2
   cases h
   have h1:=iha e1
   have h2:=ihb e2
   rw[mulF_val,h2]
   simp only[SI.den]
   rw[← h1]; simp [LF.val,sumV]
  ·rename_i x c _ e1 e2
   cases h
   have h1:=iha e1
   have h2:=ihb e2
   rw[mulF_val,h1]
   simp only[SI.den]
   rw[← h2]; simp [LF.val,sumV]; rw[Int.mul_comm]
  ·exact atomF_ok h
 | _=>intro f h; exact atomF_ok h
theorem litS_ok {T:List SI}(b:SB):∀ {t:Bool}{l:Lit},litS T b t=some l→(l.holds (vOf E T) E.bool↔b.den E=t):=by
 induction b with
 | lss a b =>
  intro t l h
  cases t <;> simp only[litS] at h
  ·split at h
   ·rename_i f g e1 e2
    cases h
    simp only[Lit.holds,add_val,neg_val,linS_ok a e1,linS_ok b e2,SB.den,decide_eq_false_iff_not]; omega
   ·simp at h
  ·split at h
   ·rename_i f g e1 e2
    cases h
    simp only[Lit.holds,val_shift,add_val,neg_val,linS_ok a e1,linS_ok b e2,SB.den,decide_eq_true_eq]; omega
   ·simp at h
 | eql a b =>
  intro t l h
  cases t <;> simp only[litS] at h
  ·split at h
   ·rename_i f g e1 e2
    cases h
    simp only[Lit.holds,add_val,neg_val,linS_ok a e1,linS_ok b e2,SB.den,beq_eq_false_iff_ne,ne_eq]; omega
   ·simp at h
  ·split at h
   ·rename_i f g e1 e2
    cases h
    simp only[Lit.holds,add_val,neg_val,linS_ok a e1,linS_ok b e2,SB.den,beq_iff_eq]; omega
   ·simp at h
 | var i =>
  intro t l h
  cases t <;> simp only[litS,Option.some.injEq] at h <;> subst h <;> exact Iff.rfl
 | not x ih =>
  intro t l h
  have h':litS T x (!t)=some l:=by cases t <;> exact h
  rw[ih h']
  simp only[SB.den]
  cases x.den E <;> cases t <;> simp
 | _=>intro t l h; cases t <;> simp [litS] at h
def One (E:Env) (c:List (SB × Bool)):Prop:=∃ p ∈ c,p.1.den E=p.2
theorem clsS_ok {T:List SI}:∀ {c:List (SB × Bool)}{l:List Lit},clsS T c=some l→One E c→Some (vOf E T) E.bool l
 | [],_,_,h=>by obtain⟨p,hp,_⟩:=h; simp at hp
 | (x,t)::r,l,e,h=>by
  simp only[clsS] at e
  split at e
  ·rename_i y m e1 e2
   cases e
   obtain⟨p,hp,h⟩:=h
   rcases List.mem_cons.1 hp with rfl | hp
   ·exact⟨y,.head _,(litS_ok x e1).2 h⟩
   ·obtain⟨z,hz,h⟩:=clsS_ok e2 ⟨p,hp,h⟩
    exact⟨z,.tail _ hz,h⟩
  ·simp at e
theorem one1 {p:SB × Bool}(h:p.1.den E=p.2):One E [p]:=⟨p,.head _,h⟩
theorem one_tl {p:SB × Bool}{c:List (SB × Bool)}(h:One E c):One E (p::c):=by
 obtain⟨q,hq,h⟩:=h; exact⟨q,.tail _ hq,h⟩
theorem one_hd {p:SB × Bool}{c:List (SB × Bool)}(h:p.1.den E=p.2):One E (p::c):=⟨p,.head _,h⟩
theorem lssT {a b:SI}(h:a.den E<b.den E):SB.den E (.lss a b)=true:=by simpa [SB.den] using h
theorem lssF {a b:SI}(h:¬ a.den E<b.den E):SB.den E (.lss a b)=false:=by simpa [SB.den] using h
theorem eqlT {a b:SI}(h:a.den E=b.den E):SB.den E (.eql a b)=true:=by simpa [SB.den] using h
theorem eqlF {a b:SI}(h:¬ a.den E=b.den E):SB.den E (.eql a b)=false:=by simpa [SB.den] using h
theorem emod_next (y c n:Int) (hn:0<n):((y+(c-1)) % n=n-1∧(y+c) % n=0)∨((y+(c-1)) % n≠n-1∧(y+c) % n=(y+(c-1)) % n+1):=by
 have h1:=Int.emod_nonneg (y+(c-1)) (show n≠0 by omega)
 have h2:=Int.emod_lt_of_pos (y+(c-1)) hn
 have e:(y+c) % n=((y+(c-1)) % n+1) % n:=by rw[Int.emod_add_emod]; congr 1; omega
 by_cases h:(y+(c-1)) % n=n-1
 ·exact .inl ⟨h,by rw[e,h,show n-1+1=n by omega,Int.emod_self]⟩
 ·exact .inr ⟨h,by rw[e,Int.emod_eq_of_lt (by omega) (by omega)]⟩
theorem ind_den (e:SI):SI.den E (.quo (.lit (.ofNat 1)) (.add (.mul e e) (.lit (.ofNat 1))))=if e.den E=0 then 1 else 0:=by
 by_cases h:e.den E=0
 ·rw[if_pos h]; simp only[SI.den]; rw[h]; decide
 ·have h2:0<e.den E*e.den E:=by
   rcases Int.lt_or_gt_of_ne h with k | k
   ·exact Int.mul_pos_of_neg_of_neg k k
   ·exact Int.mul_pos k k
  rw[if_neg h]
  simp only[SI.den]
  rw[Int.tdiv_eq_ediv_of_nonneg (by decide)]
  exact Int.ediv_eq_zero_of_lt (by decide) (by show (1:Int)<e.den E*e.den E+1; omega)
theorem cntN_nonneg (c:Nat) (r:Int→Int):∀ n,0≤cntN c r n
 | 0=>Int.le_refl _
 | n+1=>by
  have h:=cntN_nonneg c r n
  have:0≤cntP c (IntKind.wrap .i64 (r ((n:Int)*2))) (IntKind.wrap .i64 (r ((n:Int)*2+1))):=by
   unfold cntP
   split
   ·split <;> decide
   ·split
    ·split <;> decide
    ·decide
  show 0≤cntN c r n+_
  omega
theorem ind1_den (e:SI):(ind1 e).den E=if e.den E=0 then 1 else 0:=ind_den e
theorem cntT_den (c:Nat) (a d:SI):(cntT c a d).den E=cntP c (IntKind.wrap .i64 (a.cells E (d.den E*2))) (IntKind.wrap .i64 (a.cells E (d.den E*2+1))):=by
 have hm:∀ {x:SI},(SI.sel .i64 a x).den E=IntKind.wrap .i64 (a.cells E (x.den E)):=rfl
 have h2:(mkMul d (.lit 2)).den E=d.den E*2:=by rw[mkMul_den]; rfl
 have h3:(mkAdd (mkMul d (.lit 2)) (.lit 1)).den E=d.den E*2+1:=by rw[mkAdd_den,h2]; rfl
 have hf:(SI.add (.sel .i64 a (mkMul d (.lit 2))) (.lit (-1))).den E=IntKind.wrap .i64 (a.cells E (d.den E*2)) + -1:=by simp only[SI.den,h2]
 unfold cntT cntP
 split
 ·simp only[SI.den] at hf ⊢
  rw[ind1_den]
  simp only[SI.den,hf]
  split <;> split <;> omega
 ·simp only[SI.den]
  rw[ind1_den,ind1_den]
  simp only[SI.den,h2,h3]
  split <;> split <;> split <;> first | rfl | omega | simp_all
 ·rename_i u
  simp only[SI.den]
  rw[ind1_den,ind1_den]
  simp only[SI.den,h2,h3]
  have:(Int.negSucc u) = -((u:Int)+1):=Int.negSucc_eq u
  rw[this]
  have e:((u+1:Nat):Int)=(u:Int)+1:=by omega
  rw[e]
  split <;> split <;> split <;> first | rfl | omega
theorem cntL_ok (k:Nat) (a d:SI):∀ c ∈ cntL k a d,One E c:=by
 intro c hc
 unfold cntL at hc
 split at hc
 ·rename_i n
  split at hc
  ·rename_i hn
   rw[List.mem_singleton.1 hc]
   refine one1 (eqlT ?_)
   show cntN k (fun j=>a.cells E j) n.toNat=cntN k (fun j=>a.cells E j) (n-1).toNat+(cntT k a (.lit (n-1))).den E
   rw[cntT_den,show n.toNat=(n-1).toNat+1 by omega]
   show cntN k (fun j=>a.cells E j) (n-1).toNat+cntP k _ _=_
   have:(((n-1).toNat:Nat):Int)=(SI.lit (n-1)).den E:=by show (((n-1).toNat:Nat):Int)=n-1; omega
   rw[this]
  ·simp at hc
 ·simp at hc
theorem isInd_ok (t:SI):isInd t=true→t.den E=0∨t.den E=1:=by
 induction t with
 | quo a b _ _ =>
  intro h
  unfold isInd at h
  split at h
  ·rename_i e e' hh
   injection hh with h1 h2
   subst h1; subst h2
   rw[← eqS_ok h,ind_den]
   by_cases hz:e.den E=0
   ·exact .inr (if_pos hz)
   ·exact .inl (if_neg hz)
  ·rename_i hh; cases hh
  ·rename_i hh; cases hh
  ·cases h
 | mul a b iha ihb =>
  intro h
  simp only[isInd,Bool.and_eq_true] at h
  simp only[SI.den]
  rcases iha h.1 with e | e <;> rcases ihb h.2 with f | f <;> rw[e,f] <;> simp
 | sub a b _ ihb =>
  intro h
  unfold isInd at h
  split at h
  ·rename_i hh; cases hh
  ·rename_i hh; cases hh
  ·rename_i a' hh
   injection hh with h1 h2
   subst h1; subst h2
   simp only[SI.den]
   rcases ihb h with e | e <;> rw[e]
   ·exact .inr (by decide)
   ·exact .inl (by decide)
  ·cases h
 | _=>intro h; simp [isInd] at h
theorem indC_ok {t:SI}{is:Bool}(h:is=true→t.den E=0∨t.den E=1):∀ c ∈ indC t is,One E c:=by
 intro c hc
 unfold indC at hc
 cases is
 ·simp at hc
 ·simp only[cond_true,List.mem_cons,List.not_mem_nil,or_false] at hc
  have:=h rfl
  rcases hc with rfl | rfl
  ·exact one1 (lssF (by simp only[SI.den] at this ⊢; omega))
  ·exact one1 (lssF (by simp only[SI.den] at this ⊢; omega))
def sumD (E:Env):List SI→Int
 | []=>0
 | a::r=>a.den E+sumD E r
theorem sumD_app (l:List SI) (b:SI):sumD E (l++[b])=sumD E l+b.den E:=by
 induction l with
 | nil=>simp [sumD]
 | cons a r ih=>simp only[List.cons_append,sumD,ih]; omega
theorem sumsL_ok (x:SI):sumD E (sumsL x)=x.den E:=by
 induction x with
 | add a b iha _=>simp only[sumsL,sumD_app,iha,SI.den]
 | _=>simp [sumsL,sumD]
theorem fallsL_ok {fa:LF}{n A:Int}(hA:fa.val (vOf E [])=A) (h0:0≤A) (h1:A<n):∀ {r:List SI}{j:Int},fallsL fa n j r=true→0<j→sumD E r=0
 | [],_,_,_=>rfl
 | a::r,j,h,hj=>by
  unfold fallsL at h
  split at h
  ·rename_i hh
   cases hh
  ·rename_i j _ _ b m y r' hh
   obtain⟨rfl,rfl⟩:=List.cons.inj hh
   simp only[Bool.and_eq_true,decide_eq_true_eq] at h
   obtain⟨⟨⟨rfl,hn⟩,hg⟩,hr⟩:=h
   split at hg
   ·rename_i g e
    have e1:=linS_ok (E:=E) b e
    have e2:=eqF_ok hg
    have e3:g.val (vOf E [])+j=A:=by
     rw[← hA,← e2]
     simp only[LF.val]
     omega
    have e4:b.den E=A-j:=by omega
    have e5:(b.den E).tdiv m=0:=by
     rw[e4]
     by_cases hs:0≤A-j
     ·exact Int.tdiv_eq_zero_of_lt hs (by omega)
     ·have:=Int.tdiv_eq_zero_of_lt (a := -(A-j)) (b:=m) (by omega) (by omega)
      rw[Int.neg_tdiv] at this
      omega
    simp only[sumD,SI.den,e5,Int.zero_mul,Int.zero_add]
    exact fallsL_ok hA h0 h1 hr (by omega)
   ·exact absurd hg (by decide)
  ·exact absurd h (by decide)
theorem zerosC_ok (x:SI):∀ c ∈ zerosC x,One E c:=by
 intro c hc
 unfold zerosC at hc
 split at hc
 ·rename_i a n y r e
  split at hc
  ·rename_i fa e1
   cases hb:(decide (0<n)&&fallsL fa n 1 r)
   ·rw[hb] at hc; simp at hc
   ·rw[hb,cond_true,List.mem_singleton] at hc
    subst hc
    simp only[Bool.and_eq_true,decide_eq_true_eq] at hb
    by_cases h0:a.den E<0
    ·exact one_hd (lssT (by simpa only[SI.den] using h0))
    ·by_cases h1:a.den E<n
     ·refine one_tl (one_tl (one1 (eqlT ?_)))
      have hs:=sumsL_ok (E:=E) x
      rw[e] at hs
      simp only[sumD,SI.den] at hs
      rw[fallsL_ok (linS_ok (E:=E) a e1) (by omega) h1 hb.2 (by omega),Int.tdiv_eq_zero_of_lt (by omega) h1,Int.zero_mul] at hs
      simp only[SI.den]
      rw[← hs]
      decide
     ·exact one_tl (one_hd (lssF (by simpa only[SI.den] using h1)))
  ·simp at hc
 ·simp at hc
theorem slideL_ok:∀ {r l:List SI}{z:SI},slideL r l=some z→l=r++[z]
 | [],[m],z,h=>by simp only[slideL,Option.some.injEq] at h; subst h; rfl
 | [],[],_,h=>by simp [slideL] at h
 | [],_::_::_,_,h=>by simp [slideL] at h
 | _::_,[],_,h=>by simp [slideL] at h
 | a::r,b::l,z,h=>by
  simp only[slideL] at h
  cases e:eqS a b
  ·rw[e] at h; simp at h
  ·rw[e,cond_true] at h
   rw[eqS_ok e,slideL_ok h]
   rfl
theorem slidesC_ok {x m:SI}{r:List SI}(hx:sumsL x=m::r) (y:SI):∀ c ∈ slidesC x m r y,One E c:=by
 intro c hc
 unfold slidesC at hc
 split at hc
 ·rename_i z e
  rw[List.mem_singleton.1 hc]
  refine one1 (eqlT ?_)
  have h1:=sumsL_ok (E:=E) x
  have h2:=sumsL_ok (E:=E) y
  rw[hx] at h1
  rw[slideL_ok e,sumD_app] at h2
  simp only[sumD] at h1
  simp only[SI.den]
  show (x.den E).tdiv 1+z.den E=(y.den E).tdiv 1+m.den E
  rw[Int.tdiv_one,Int.tdiv_one]
  omega
 ·simp at hc
theorem thy_ok (t:SI):∀ c ∈ thy t,One E c:=by
 intro c hc
 unfold thy at hc
 split at hc
 ·rename_i k x
  have hb:=wrap_bounds k (x.den E)
  simp only[List.mem_cons,List.not_mem_nil,or_false] at hc
  rcases hc with rfl | rfl | rfl
  ·exact one1 (lssF (by simp only[SI.den]; omega))
  ·exact one1 (lssF (by simp only[SI.den]; omega))
  ·by_cases h1:x.den E<k.min
   ·exact one_hd (lssT (by simpa only[SI.den] using h1))
   ·by_cases h2:k.max<x.den E
    ·exact one_tl (one_hd (lssT (by simpa only[SI.den] using h2)))
    ·exact one_tl (one_tl (one1 (eqlT (by simp only[SI.den]; exact wrap_self k _ (by omega) (by omega)))))
 ·rename_i k a j
  have hb:=wrap_bounds k (a.cells E (j.den E))
  rcases List.mem_append.1 hc with hc | hc
  ·simp only[List.mem_cons,List.not_mem_nil,or_false] at hc
   rcases hc with rfl | rfl
   ·exact one1 (lssF (by simp only[SI.den]; omega))
   ·exact one1 (lssF (by simp only[SI.den]; omega))
  ·split at hc
   ·simp only[List.mem_cons,List.not_mem_nil,or_false] at hc
    subst hc
    exact one1 (eqlT rfl)
   ·rename_i r i v _
    simp only[List.mem_cons,List.not_mem_nil,or_false] at hc
    by_cases h:j.den E=i.den E
    ·rcases hc with rfl | rfl
     ·exact one_tl (one1 (eqlT (by simp only[SI.den,SI.cells]; rw[if_pos h])))
     ·exact one_hd (eqlT h.symm)
    ·rcases hc with rfl | rfl
     ·exact one_hd (eqlF fun e=>h e.symm)
     ·exact one_tl (one1 (eqlT (by simp only[SI.den,SI.cells]; rw[if_neg h])))
   ·simp at hc
 ·rename_i x n
  split at hc
  ·rename_i hn
   have hlt:(x.den E).tmod n<n:=by
    have:=Int.tmod_lt_of_pos (x.den E) hn; exact this
   rcases List.mem_append.1 hc with hc | hc
   ·simp only[List.mem_cons,List.not_mem_nil,or_false] at hc
    rcases hc with rfl | rfl
    ·by_cases h:x.den E<0
     ·exact one_hd (lssT (by simpa only[SI.den] using h))
     ·exact one_tl (one1 (lssF (by simp only[SI.den]; rw[den_tmod (by omega)]; have:=Int.emod_nonneg (x.den E) (show n≠0 by omega); omega)))
    ·exact one1 (lssT (by simp only[SI.den]; exact hlt))
   ·split at hc
    ·rename_i y cc _
     split at hc
     ·rename_i h2
      simp only[List.mem_cons,List.not_mem_nil,or_false] at hc
      by_cases h:y.den E<0
      ·rcases hc with rfl | rfl <;> exact one_hd (lssT (by simpa only[SI.den] using h))
      ·have e1:(y.den E+(cc-1)).tmod n=(y.den E+(cc-1)) % n:=den_tmod (by omega)
       have e2:(y.den E+cc).tmod n=(y.den E+cc) % n:=den_tmod (by omega)
       rcases emod_next (y.den E) cc n hn with ⟨k1,k2⟩ | ⟨k1,k2⟩
       ·rcases hc with rfl | rfl
        ·exact one_tl (one_hd (eqlT (by simp only[SI.den]; rw[e1,k1])))
        ·exact one_tl (one_tl (one1 (eqlT (by simp only[SI.den]; rw[e2,k2]))))
       ·rcases hc with rfl | rfl
        ·exact one_tl (one_tl (one1 (eqlT (by simp only[SI.den]; rw[e1,e2,k2]))))
        ·exact one_tl (one_hd (eqlF (by simp only[SI.den]; rw[e1]; exact k1)))
     ·split at hc
      ·rename_i h2
       subst h2
       simp only[List.mem_cons,List.not_mem_nil,or_false] at hc
       by_cases h:y.den E<0
       ·rcases hc with rfl | rfl <;> exact one_hd (lssT (by simpa only[SI.den] using h))
       ·have e1:(y.den E).tmod n=(y.den E+(1-1)) % n:=by rw[den_tmod (by omega)]; congr 1; omega
        have e2:(y.den E+1).tmod n=(y.den E+1) % n:=den_tmod (by omega)
        rcases emod_next (y.den E) 1 n hn with ⟨k1,k2⟩ | ⟨k1,k2⟩
        ·rcases hc with rfl | rfl
         ·exact one_tl (one_hd (eqlT (by simp only[SI.den]; rw[e1,k1])))
         ·exact one_tl (one_tl (one1 (eqlT (by simp only[SI.den]; rw[e2,k2]))))
        ·rcases hc with rfl | rfl
         ·exact one_tl (one_tl (one1 (eqlT (by simp only[SI.den]; rw[e1,e2,k2]))))
         ·exact one_tl (one_hd (eqlF (by simp only[SI.den]; rw[e1]; exact k1)))
      ·simp at hc
    ·simp only[List.mem_cons,List.not_mem_nil,or_false] at hc
     subst hc
     exact one1 (eqlT rfl)
    ·simp at hc
  ·simp at hc
 ·rename_i x n y
  split at hc
  ·rename_i hn
   simp only[List.mem_cons,List.not_mem_nil,or_false] at hc
   rcases hc with rfl | rfl
   ·by_cases h0:x.den E<0
    ·exact one_hd (lssT (by simpa only[SI.den] using h0))
    ·by_cases h1:x.den E<n
     ·refine one_tl (one_tl (one1 (eqlT ?_)))
      simp only[SI.den]
      rw[Int.tdiv_eq_ediv_of_nonneg (by omega),Int.ediv_eq_zero_of_lt (by omega) h1,Int.zero_mul]
     ·exact one_tl (one_hd (lssF (by simpa only[SI.den] using h1)))
   ·by_cases h0:x.den E<n
    ·exact one_hd (lssT (by simpa only[SI.den] using h0))
    ·by_cases h1:x.den E<2*n
     ·refine one_tl (one_tl (one1 (eqlT ?_)))
      simp only[SI.den]
      have e:x.den E / n=1:=by
       refine(Int.ediv_eq_iff_of_pos hn).2 ⟨by omega,by omega⟩
      rw[Int.tdiv_eq_ediv_of_nonneg (by omega),e,Int.one_mul]
     ·exact one_tl (one_hd (lssF (by simpa only[SI.den] using h1)))
  ·simp at hc
 ·rename_i a b _
  refine(List.mem_append.1 hc).elim (fun hc=>?_) (fun hc=>indC_ok (t:=.mul a b) (fun h=>isInd_ok (.mul a b) h) c hc)
  simp only[List.mem_cons,List.not_mem_nil,or_false] at hc
  rcases hc with rfl | rfl
  ·by_cases h:a.den E=0
   ·exact one_tl (one1 (eqlT (by simp only[SI.den]; rw[h,Int.zero_mul])))
   ·exact one_hd (eqlF (by simpa only[SI.den] using h))
  ·by_cases h:a.den E=1
   ·exact one_tl (one1 (eqlT (by simp only[SI.den]; rw[h,Int.one_mul])))
   ·exact one_hd (eqlF (by simpa only[SI.den] using h))
 ·simp only[List.mem_cons,List.not_mem_nil,or_false] at hc
  subst hc
  exact one1 (eqlT rfl)
 ·rename_i e e'
  split at hc
  ·rename_i he
   subst he
   have hq:SI.den E (.quo (.lit (.ofNat 1)) (.add (.mul e e) (.lit (.ofNat 1))))=if e.den E=0 then 1 else 0:=by
    by_cases h:e.den E=0
    ·rw[if_pos h]; simp only[SI.den]; rw[h]; decide
    ·have h2:0<e.den E*e.den E:=by
      rcases Int.lt_or_gt_of_ne h with k | k
      ·exact Int.mul_pos_of_neg_of_neg k k
      ·exact Int.mul_pos k k
     rw[if_neg h]
     simp only[SI.den]
     rw[Int.tdiv_eq_ediv_of_nonneg (by decide)]
     exact Int.ediv_eq_zero_of_lt (by decide) (by show (1:Int)<e.den E*e.den E+1; omega)
   simp only[List.cons_append,List.nil_append,List.mem_cons,List.not_mem_nil,or_false] at hc
   by_cases h:e.den E=0
   ·rw[if_pos h] at hq
    rcases hc with rfl | rfl | rfl | rfl
    ·exact one_tl (one1 (eqlT hq))
    ·exact one_hd (eqlT (by simpa only[SI.den] using h))
    ·exact one1 (lssF (by rw[hq]; simp only[SI.den]; decide))
    ·exact one1 (lssF (by rw[hq]; simp only[SI.den]; decide))
   ·rw[if_neg h] at hq
    rcases hc with rfl | rfl | rfl | rfl
    ·exact one_hd (eqlF (by simpa only[SI.den] using h))
    ·exact one_tl (one1 (eqlT hq))
    ·exact one1 (lssF (by rw[hq]; simp only[SI.den]; decide))
    ·exact one1 (lssF (by rw[hq]; simp only[SI.den]; decide))
  ·simp at hc
 ·rename_i k a d
  refine(List.mem_append.1 hc).elim (fun hc=>?_) (fun hc=>cntL_ok k a d c hc)
  simp only[List.mem_cons,List.not_mem_nil,or_false] at hc
  rcases hc with rfl | rfl
  ·by_cases h:0<d.den E
   ·exact one_hd (lssT (by simpa only[SI.den] using h))
   ·refine one_tl (one1 (eqlT ?_))
    show cntN k (fun j=>a.cells E j) (d.den E).toNat=0
    rw[show (d.den E).toNat=0 by omega]
    rfl
  ·refine one1 (lssF ?_)
   have:=cntN_nonneg k (fun j=>a.cells E j) (d.den E).toNat
   show ¬ cntN k (fun j=>a.cells E j) (d.den E).toNat<0
   omega
 ·exact zerosC_ok _ c hc
 ·simp at hc
def StpsOK (E:Env) (ss:List Stp):Prop:=∀ s ∈ ss,∀ j:Int,0≤j→E.row s.row j=if j<s.e.den E then s.a else s.b
theorem thyStp_ok {ss:List Stp}(hs:StpsOK E ss) (t:SI):∀ c ∈ thyStp ss t,One E c:=by
 intro c hc
 unfold thyStp at hc
 split at hc
 ·rename_i k r j
  obtain⟨s,hs',hc⟩:=List.mem_flatMap.1 hc
  obtain⟨hs1,hs2⟩:=List.mem_filter.1 hs'
  have hr:=Nat.eq_of_beq_eq_true hs2
  simp only[List.mem_cons,List.not_mem_nil,or_false] at hc
  by_cases h0:j.den E<0
  ·rcases hc with rfl | rfl <;> exact one_hd (lssT (by simpa only[SI.den] using h0))
  ·have hrow:=hs s hs1 (j.den E) (by omega)
   rw[hr] at hrow
   by_cases h1:j.den E<s.e.den E
   ·rw[if_pos h1] at hrow
    rcases hc with rfl | rfl
    ·exact one_tl (one_tl (one1 (eqlT (by simp only[SI.den,SI.cells]; rw[hrow]))))
    ·exact one_tl (one_hd (lssT h1))
   ·rw[if_neg h1] at hrow
    rcases hc with rfl | rfl
    ·exact one_tl (one_hd (lssF h1))
    ·exact one_tl (one_tl (one1 (eqlT (by simp only[SI.den,SI.cells]; rw[hrow]))))
 ·simp at hc
theorem cong_ok {T:List SI}(t:SI):∀ c ∈ cong T t,One E c:=by
 intro c hc
 unfold cong at hc
 split at hc
 ·rename_i k r u
  obtain⟨t,_,hc⟩:=List.mem_flatMap.1 hc
  split at hc
  ·rename_i k' r' x y _
   split at hc
   ·rename_i h
    obtain⟨rfl,rfl⟩:=h
    rw[List.mem_singleton.1 hc]
    by_cases e:(SI.rem x y).den E=u
    ·exact one_tl (one1 (eqlT (by
      show k.wrap (SI.cells E (.row r) ((SI.rem x y).den E))=k.wrap (SI.cells E (.row r) u)
      rw[e])))
    ·exact one_hd (eqlF e)
   ·simp at hc
  ·simp at hc
 ·rename_i k a d
  obtain⟨t,_,hc⟩:=List.mem_flatMap.1 hc
  split at hc
  ·rename_i k' a' d' _
   cases hb:(Nat.beq k k'&&eqS a a')
   ·rw[hb] at hc; simp at hc
   ·rw[hb,cond_true] at hc
    simp only[Bool.and_eq_true] at hb
    have e1:=Nat.eq_of_beq_eq_true hb.1
    have e2:=eqS_ok hb.2
    subst e1; subst e2
    cases h1:eqS (mkAdd d (.lit 1)) d'
    ·rw[h1,cond_false] at hc
     cases h2:eqS d d'
     ·rw[h2,cond_false,List.mem_singleton] at hc
      subst hc
      by_cases e:d.den E=d'.den E
      ·refine one_tl (one1 (eqlT ?_))
       show cntN k (fun j=>a.cells E j) (d.den E).toNat=cntN k (fun j=>a.cells E j) (d'.den E).toNat
       rw[e]
      ·exact one_hd (eqlF e)
     ·rw[h2] at hc; simp at hc
    ·rw[h1,cond_true,List.mem_singleton] at hc
     subst hc
     have e3:d'.den E=d.den E+1:=by rw[← eqS_ok h1,mkAdd_den]; rfl
     by_cases hd:d.den E<0
     ·exact one_hd (lssT (by simpa only[SI.den] using hd))
     ·refine one_tl (one1 (eqlT ?_))
      show cntN k (fun j=>a.cells E j) (d'.den E).toNat=cntN k (fun j=>a.cells E j) (d.den E).toNat+(cntT k a d).den E
      rw[cntT_den,e3,show (d.den E+1).toNat=(d.den E).toNat+1 by omega]
      show cntN k (fun j=>a.cells E j) (d.den E).toNat+cntP k _ _=_
      have:(((d.den E).toNat:Nat):Int)=d.den E:=by omega
      rw[this]
  ·simp at hc
 ·rename_i x
  split at hc
  ·rename_i m r e
   obtain⟨t,_,hc⟩:=List.mem_flatMap.1 hc
   split at hc
   ·exact slidesC_ok e _ c hc
   ·simp at hc
  ·simp at hc
 ·simp at hc
theorem addNew_app:∀ {l T:List SI},∃ r,addNew T l=T++r
 | [],T=>⟨[],by simp [addNew]⟩
 | a::l,T=>by
  simp only[addNew]
  split
  ·exact addNew_app
  ·obtain⟨r,h⟩:=addNew_app (l:=l) (T:=T++[a])
   exact⟨a::r,by rw[h]; simp⟩
structure CutΦ.Holds (a:CutΦ) (E:Env):Prop where
 cls:∀ r,All (vOf E (a.tbl++r)) E.bool a.cls
 stps:StpsOK E a.stps
 win:∀ w,a.win=some w→∀ r (u:Nat) cl,u<w.n→w.stop[u]?=some cl→(E.int w.i+w.d-u) % w.n<E.int w.i+w.d-w.B-w.n*w.q.val (vOf E (a.tbl++r))→All (vOf E (a.tbl++r)) E.bool cl
theorem winC_ok {a:CutΦ}(ha:a.Holds E) (r:List SI):All (vOf E (a.tbl++r)) E.bool (winC a.win):=by
 intro c hc
 unfold winC at hc
 split at hc
 ·simp at hc
 ·rename_i w hw
  obtain⟨cl,hcl,hc⟩:=List.mem_flatMap.1 hc
  obtain⟨c0,hc0,rfl⟩:=List.mem_map.1 hc
  obtain⟨u,hu⟩:=List.getElem?_of_mem hcl
  rw[List.getElem?_take] at hu
  split at hu
  ·rename_i hlt
   by_cases hL:0≤w.late.val (vOf E (a.tbl++r))
   ·exact⟨_,.head _,hL⟩
   ·have hm:=Int.emod_lt_of_pos (E.int w.i+w.d-u) (show (0:Int)<w.n by omega)
    have e:w.late.val (vOf E (a.tbl++r))=w.n*w.q.val (vOf E (a.tbl++r))-E.int w.i+(w.n-1+w.B-w.d):=by
     unfold Win.late
     rw[add_val,scl_val]
     simp only[LF.val,sumV,vOf_even]; omega
    rw[e] at hL
    obtain⟨l,hl,h⟩:=ha.win w hw r u cl hlt hu (by omega) c0 hc0
    exact⟨l,.tail _ hl,h⟩
  ·simp at hu
structure FS.Ok (s:FS) (v:Nat→Int) (b:Nat→Bool):Prop where
 F:∀ i f,s.F.get i=some f→0≤f.val v
 Q:∀ p ∈ s.Q,p.2.val v≠0
 N:∀ p ∈ s.N,v p.1≠p.2
 B:∀ p ∈ s.B,b p.1=p.2
 L:∀ i k,s.L.get i=some k→k≤v i
 U:∀ i k,s.U.get i=some k→v i≤k
 ok:s.bad=false
 M:∀ f ∈ s.M,0≤f.val v
theorem FS.Ok.nil:fs0.Ok v b:=⟨fun i f h=>by simp [fs0,Tr.get] at h,by simp [fs0],by simp [fs0],by simp [fs0],fun i f h=>by simp [fs0,Tr.get] at h,fun i f h=>by simp [fs0,Tr.get] at h,rfl,by simp [fs0]⟩
theorem isNeg_ok {k:Int}(h:isNeg k=true):k<0:=by cases k with | ofNat n=>simp [isNeg] at h | negSucc n=>omega
theorem isNeg_no {k:Int}(h:isNeg k=false):0≤k:=by cases k with | ofNat n=>exact Int.natCast_nonneg n | negSucc n=>simp [isNeg] at h
theorem ltZ_ok {o:Option Int}(h:ltZ o=true):∃ m,o=some m∧m<0:=by
 cases o with
 | none=>simp [ltZ] at h
 | some m=>exact⟨m,rfl,isNeg_ok h⟩
theorem leZ_ok {o:Option Int}(h:leZ o=true):∃ m,o=some m∧m≤0:=by
 cases o with
 | none=>simp [leZ] at h
 | some m=>exact⟨m,rfl,by have:=isNeg_ok (show isNeg (m-1)=true from h); omega⟩
theorem upL_ok {L U:Tr Int}(hL:∀ i k,L.get i=some k→k≤v i) (hU:∀ i k,U.get i=some k→v i≤k):∀ {l:List (Nat × Int)}{acc m:Int},upL L U l acc=some m→sumV v l+acc≤m
 | [],acc,m,h=>by simp only[upL,Option.some.injEq] at h; subst h; simp [sumV]
 | (i,c)::r,acc,m,h=>by
  simp only[upL] at h
  split at h
  ·rename_i b hb
   have h1:=upL_ok hL hU h
   have h2:c*v i≤c*b:=by
    cases c with
    | ofNat n=>exact Int.mul_le_mul_of_nonneg_left (hU i b hb) (Int.natCast_nonneg n)
    | negSucc n=>exact Int.mul_le_mul_of_nonpos_left (by omega) (hL i b hb)
   simp only[sumV]; omega
  ·simp at h
theorem FS.Ok.up {s:FS}(hs:s.Ok v b) {f:LF}{m:Int}(h:s.up f=some m):f.val v≤m:=upL_ok hs.L hs.U h
theorem sing_ok {f:LF}{p:Nat × Int}(h:sing f=some p):f.val v=0↔v p.1=p.2:=by
 unfold sing at h
 split at h
 ·cases h; rename_i i d; have e:(Int.ofNat 1)*v i=v i:=Int.one_mul _; simp only[LF.val,sumV,e]; omega
 ·cases h; rename_i i d; have e:(Int.negSucc 0)*v i = -v i:=Int.neg_one_mul _; simp only[LF.val,sumV,e]; omega
 ·simp at h
theorem FS.Ok.ref {s:FS}(hs:s.Ok v b) {l:Lit}(h:s.ref l=true):¬ l.holds v b:=by
 cases l with
 | ge f =>
  obtain⟨m,h1,h2⟩:=ltZ_ok h
  have:=hs.up h1
  simp only[Lit.holds]; omega
 | eq f =>
  simp only[FS.ref,Bool.or_eq_true] at h
  simp only[Lit.holds]
  rcases h with (h | h) | h
  ·obtain⟨m,h1,h2⟩:=ltZ_ok h
   have:=hs.up h1
   omega
  ·obtain⟨m,h1,h2⟩:=ltZ_ok h
   have:=hs.up h1
   rw[neg_val] at this; omega
  ·split at h
   ·rename_i p hp
    obtain⟨q,hq,e⟩:=List.any_eq_true.1 h
    simp only[Bool.and_eq_true,decide_eq_true_eq] at e
    have:=hs.N q hq
    rw[Nat.eq_of_beq_eq_true e.1,e.2] at this
    exact fun hz=>this ((sing_ok hp).1 hz)
   ·obtain⟨q,hq,e⟩:=List.any_eq_true.1 h
    have:=hs.Q q hq
    simp only[Bool.or_eq_true] at e
    rcases e with e | e
    ·rw[eqF_ok e] at this; exact this
    ·rw[eqF_ok e,neg_val] at this; omega
 | ne f =>
  simp only[FS.ref,Bool.and_eq_true] at h
  obtain⟨m,h1,h2⟩:=leZ_ok h.1
  obtain⟨m',h3,h4⟩:=leZ_ok h.2
  have:=hs.up h1
  have h5:=hs.up h3
  rw[neg_val] at h5
  simp only[Lit.holds]; omega
 | bl i t =>
  obtain⟨p,hp,e⟩:=List.any_eq_true.1 h
  simp only[Bool.and_eq_true,bne_iff_ne,ne_eq] at e
  have:=hs.B p hp
  rw[Nat.eq_of_beq_eq_true e.1] at this
  simp only[Lit.holds]
  rw[this]; exact e.2
theorem bumpU_ok {N:List (Nat × Int)}(hN:∀ p ∈ N,v p.1≠p.2) {i:Nat}:∀ (n:Nat) {k:Int},k≤v i→bumpU N i n k≤v i
 | 0,_,h=>h
 | n+1,k,h=>by
  unfold bumpU
  cases e:N.any (fun p=>Nat.beq p.1 i&&decide (p.2=k))
  ·exact h
  ·rw[cond_true]
   obtain⟨p,hp,e⟩:=List.any_eq_true.1 e
   simp only[Bool.and_eq_true,decide_eq_true_eq] at e
   have:=hN p hp
   rw[Nat.eq_of_beq_eq_true e.1,e.2] at this
   exact bumpU_ok hN n (by omega)
theorem bumpD_ok {N:List (Nat × Int)}(hN:∀ p ∈ N,v p.1≠p.2) {i:Nat}:∀ (n:Nat) {k:Int},v i≤k→v i≤bumpD N i n k
 | 0,_,h=>h
 | n+1,k,h=>by
  unfold bumpD
  cases e:N.any (fun p=>Nat.beq p.1 i&&decide (p.2=k))
  ·exact h
  ·rw[cond_true]
   obtain⟨p,hp,e⟩:=List.any_eq_true.1 e
   simp only[Bool.and_eq_true,decide_eq_true_eq] at e
   have:=hN p hp
   rw[Nat.eq_of_beq_eq_true e.1,e.2] at this
   exact bumpD_ok hN n (by omega)
theorem frcN_eq {R:Type}(x:Nat) (k:Nat→R):frcN x k=k x:=by cases x <;> rfl
theorem frcI_eq {R:Type}(x:Int) (k:Int→R):frcI x k=k x:=by cases x with | ofNat n=>exact frcN_eq n (fun m=>k (.ofNat m)) | negSucc n=>exact frcN_eq n (fun m=>k (.negSucc m))
theorem FS.Ok.putL {s:FS}(hs:s.Ok v b) {i:Nat}{k0:Int}(h0:k0≤v i):(s.putL i k0).Ok v b:=by
 obtain⟨F,Q,N,B,L,U,bad,M⟩:=s
 have h:=bumpU_ok hs.N (i:=i) 20 h0
 simp only[FS.putL,frcI_eq]
 generalize bumpU N i 20 k0=k at h
 have key:∀ bd:Bool,bd=false→FS.Ok ⟨F,Q,N,B,L.set i k,U,bd,M⟩ v b:=fun bd hb=>⟨hs.F,hs.Q,hs.N,hs.B,fun j l hl=>by
  simp only[Tr.get_set] at hl
  split at hl
  ·rename_i e; cases hl; rw[e]; exact h
  ·exact hs.L j l hl,hs.U,hb,hs.M⟩
 split
 ·rename_i u hu
  have:=hs.U i u hu
  cases e:isNeg (u-k)
  ·exact key _ hs.ok
  ·have:=isNeg_ok e; omega
 ·exact key _ hs.ok
theorem FS.Ok.putU {s:FS}(hs:s.Ok v b) {i:Nat}{k0:Int}(h0:v i≤k0):(s.putU i k0).Ok v b:=by
 obtain⟨F,Q,N,B,L,U,bad,M⟩:=s
 have h:=bumpD_ok hs.N (i:=i) 20 h0
 simp only[FS.putU,frcI_eq]
 generalize bumpD N i 20 k0=k at h
 have key:∀ bd:Bool,bd=false→FS.Ok ⟨F,Q,N,B,L,U.set i k,bd,M⟩ v b:=fun bd hb=>⟨hs.F,hs.Q,hs.N,hs.B,hs.L,fun j l hl=>by
  simp only[Tr.get_set] at hl
  split at hl
  ·rename_i e; cases hl; rw[e]; exact h
  ·exact hs.U j l hl,hb,hs.M⟩
 split
 ·rename_i l hl
  have:=hs.L i l hl
  cases e:isNeg (k-l)
  ·exact key _ hs.ok
  ·have:=isNeg_ok e; omega
 ·exact key _ hs.ok
theorem FS.Ok.setL {s:FS}(hs:s.Ok v b) {i:Nat}{k:Int}(h:k≤v i):(s.setL i k).Ok v b:=by
 obtain⟨F,Q,N,B,L,U,bad,M⟩:=s
 simp only[FS.setL]
 generalize (match L.get i with | some l=>isNeg (l-k) | none=>true)=c
 cases c
 ·exact hs
 ·exact hs.putL h
theorem FS.Ok.setU {s:FS}(hs:s.Ok v b) {i:Nat}{k:Int}(h:v i≤k):(s.setU i k).Ok v b:=by
 obtain⟨F,Q,N,B,L,U,bad,M⟩:=s
 simp only[FS.setU]
 generalize (match U.get i with | some u=>isNeg (k-u) | none=>true)=c
 cases c
 ·exact hs
 ·exact hs.putU h
theorem low_div {c:Nat}{x d:Int}(h:0≤((c+1:Nat):Int)*x+d) : -(d / ((c+1:Nat):Int))≤x:=by
 have h1:0<((c+1:Nat):Int):=by omega
 have h2:=Int.le_ediv_of_mul_le h1 (show (-x)*((c+1:Nat):Int)≤d by rw[Int.neg_mul,Int.mul_comm]; omega)
 omega
theorem up_div {c:Nat}{x d:Int}(h:0≤Int.negSucc c*x+d):x≤d / ((c+1:Nat):Int):=by
 have h1:0<((c+1:Nat):Int):=by omega
 refine Int.le_ediv_of_mul_le h1 ?_
 have e:Int.negSucc c*x = -(x*((c+1:Nat):Int)):=by rw[Int.negSucc_eq,Int.neg_mul,Int.mul_comm]; rfl
 omega
theorem FS.Ok.addGe {s:FS}(hs:s.Ok v b) {key:Nat}{f:LF}(h:0≤f.val v):(s.addGe key f).Ok v b:=by
 unfold FS.addGe
 split
 ·rename_i d
  cases e:isNeg d
  ·exact hs
  ·have:=isNeg_ok e
   simp only[LF.val,sumV] at h; omega
 ·exact hs.setL (low_div (by simpa [LF.val,sumV] using h))
 ·exact hs.setU (up_div (by simpa [LF.val,sumV] using h))
 ·obtain⟨F,Q,N,B,L,U,bad,M⟩:=s
  refine⟨fun i g hg=>?_,hs.Q,hs.N,hs.B,hs.L,hs.U,hs.ok,fun g hg=>?_⟩
  ·simp only[FS.more,Tr.get_set] at hg
   split at hg
   ·cases hg; exact h
   ·exact hs.F i g hg
  ·rcases List.mem_cons.1 hg with rfl | hg
   ·exact h
   ·exact hs.M g hg
theorem FS.Ok.addN {s:FS}(hs:s.Ok v b) {i:Nat}{k:Int}(h:v i≠k):(s.addN i k).Ok v b:=by
 have h1:FS.Ok (s.notE i k) v b:=by
  obtain⟨F,Q,N,B,L,U,bad,M⟩:=s
  exact⟨hs.F,hs.Q,fun p hp=>by
   rcases List.mem_cons.1 hp with rfl | hp
   ·exact h
   ·exact hs.N p hp,hs.B,hs.L,hs.U,hs.ok,hs.M⟩
 unfold FS.addN
 generalize s.notE i k=s1 at h1
 have h2:FS.Ok (s1.upL1 i k) v b:=by
  unfold FS.upL1
  cases e:s1.atL i k
  ·exact h1
  ·unfold FS.atL at e
   split at e
   ·rename_i l hl
    have:=h1.L i l hl
    have e:=of_decide_eq_true e
    exact h1.setL (by omega)
   ·simp at e
 generalize s1.upL1 i k=s2 at h2
 unfold FS.dnU1
 cases e:s2.atU i k
 ·exact h2
 ·unfold FS.atU at e
  split at e
  ·rename_i l hl
   have:=h2.U i l hl
   have e:=of_decide_eq_true e
   exact h2.setU (by omega)
  ·simp at e
theorem FS.Ok.add {s:FS}(hs:s.Ok v b) {key:Nat}{l:Lit}(h:l.holds v b):(s.add key l).Ok v b:=by
 cases l with
 | ge f=>exact hs.addGe h
 | eq f =>
  have h:f.val v=0:=h
  exact(hs.addGe (by omega)).addGe (by rw[neg_val]; omega)
 | ne f =>
  show FS.Ok (match sing f with | some p=>s.addN p.1 p.2 | none=>s.addQ key f) v b
  split
  ·rename_i p hp
   exact hs.addN fun e=>h ((sing_ok hp).2 e)
  ·obtain⟨F,Q,N,B,L,U,bad,M⟩:=s
   refine⟨hs.F,fun p hp=>?_,hs.N,hs.B,hs.L,hs.U,hs.ok,hs.M⟩
   rcases List.mem_cons.1 hp with rfl | hp
   ·exact h
   ·exact hs.Q p hp
 | bl i t =>
  obtain⟨F,Q,N,B,L,U,bad,M⟩:=s
  refine⟨hs.F,hs.Q,hs.N,fun p hp=>?_,hs.L,hs.U,hs.ok,hs.M⟩
  rcases List.mem_cons.1 hp with rfl | hp
  ·exact h
  ·exact hs.B p hp
theorem FS.Ok.push {s:FS}(hs:s.Ok v b) {key:Nat}{l:Lit}(h:l.holds v b):(s.push key l).Ok v b:=by
 unfold FS.push
 cases e:s.ref l
 ·exact hs.add h
 ·exact absurd h (hs.ref e)
theorem factOf_ok {s:FS}(hs:s.Ok v b) {r:Nat}{f:LF}(h:factOf s r=some f):0≤f.val v:=by
 unfold factOf at h
 split at h
 ·exact hs.F _ _ h
 ·split at h
  ·rename_i k hk
   have:=hs.L _ _ hk
   cases h; simp only[LF.val,sumV]; omega
  ·simp at h
 ·split at h
  ·rename_i k hk
   have:=hs.U _ _ hk
   cases h; simp only[LF.val,sumV]; omega
  ·simp at h
theorem sumO_ok {s:FS}(hs:s.Ok v b):∀ {l:List Nat}{acc f:LF},sumO s l acc=some f→0≤acc.val v→0≤f.val v
 | [],acc,f,h,ha=>by simp only[sumO,Option.some.injEq] at h; subst h; exact ha
 | p::l,acc,f,h,ha=>by
  simp only[sumO] at h
  split at h
  ·rename_i g hg
   have h1:=factOf_ok hs hg
   refine sumO_ok hs h ?_
   rw[add_val]; omega
  ·simp at h
theorem sumC_ok {s:FS}(hs:s.Ok v b):∀ {l:List (Nat × Nat)}{acc f:LF},sumC s l acc=some f→0≤acc.val v→0≤f.val v
 | [],acc,f,h,ha=>by simp only[sumC,Option.some.injEq] at h; subst h; exact ha
 | p::l,acc,f,h,ha=>by
  simp only[sumC] at h
  split at h
  ·rename_i g hg
   have h1:=factOf_ok hs hg
   refine sumC_ok hs h ?_
   rw[add_val,scl_val]
   have:0≤(p.2:Int)*g.val v:=Int.mul_nonneg (by omega) h1
   omega
  ·simp at h
theorem linC_ok {s:FS}(hs:s.Ok v b) {o:List Nat}{l:List (Nat × Nat)}(h:linC s o l=true):False:=by
 unfold linC at h
 split at h
 ·rename_i f hf
  have h0:=sumO_ok hs hf (by simp [LF.val,sumV])
  split at h
  ·rename_i g e
   have:=sumC_ok hs e h0
   obtain⟨m,h1,h2⟩:=ltZ_ok h
   have:=hs.up h1
   omega
  ·simp at h
 ·simp at h
theorem decF_val (f:LF):(decF f).val v=f.val v-1:=by simp only[decF,LF.val]; omega
theorem alive_ok {s:FS}(hs:s.Ok v b):∀ {c:List Lit},Some v b c→Some v b (alive s c)
 | [],h=>h
 | l::c,⟨x,hx,h⟩=>by
  unfold alive
  rcases List.mem_cons.1 hx with rfl | hx
  ·cases e:s.ref x
   ·exact⟨x,.head _,h⟩
   ·exact absurd h (hs.ref e)
  ·obtain⟨y,hy,h⟩:=alive_ok hs ⟨x,hx,h⟩
   cases e:s.ref l
   ·exact⟨y,.tail _ hy,h⟩
   ·exact⟨y,hy,h⟩
theorem unitL_ok {s:FS}(hs:s.Ok v b) {key:Nat}{c:List Lit}(h:Some v b c):(unitL s key c).Ok v b:=by
 have h1:=alive_ok hs h
 unfold unitL
 split
 ·rename_i e
  rw[e] at h1
  obtain⟨x,hx,_⟩:=h1
  simp at hx
 ·rename_i l e
  rw[e] at h1
  obtain⟨x,hx,hh⟩:=h1
  rw[List.mem_singleton.1 hx] at hh
  cases e:s.ref (Lit.not l)
  ·exact hs.add hh
  ·exact hs
 ·exact hs
theorem upM_ok {L U:Tr Int}(hL:∀ i k,L.get i=some k→k≤v i) (hU:∀ i k,U.get i=some k→v i≤k):∀ {l:List (Nat × Int)}{acc:Int}{o:Option (Nat × Int)}{t:Int}{o':Option (Nat × Int)},upM L U l acc o=some (t,o') →
  sumV v l+acc+(match o with | some p=>p.2*v p.1 | none=>0)≤t+(match o' with | some p=>p.2*v p.1 | none=>0)
 | [],acc,o,t,o',h=>by simp only[upM,Option.some.injEq,Prod.mk.injEq] at h; obtain⟨rfl,rfl⟩:=h; simp only[sumV]; omega
 | (i,c)::r,acc,o,t,o',h=>by
  simp only[upM] at h
  split at h
  ·rename_i b hb
   have h1:=upM_ok hL hU h
   have h2:c*v i≤c*b:=by
    cases c with
    | ofNat n=>exact Int.mul_le_mul_of_nonneg_left (hU i b hb) (Int.natCast_nonneg n)
    | negSucc n=>exact Int.mul_le_mul_of_nonpos_left (by omega) (hL i b hb)
   simp only[sumV]; omega
  ·split at h
   ·have h1:=upM_ok hL hU h
    simp only[sumV] at h1 ⊢; omega
   ·simp at h
theorem upM_lack {L U:Tr Int}(hL:∀ i k,L.get i=some k→k≤v i) (hU:∀ i k,U.get i=some k→v i≤k):∀ {l:List (Nat × Int)}{acc:Int}{t:Int},upM L U l acc none=some (t,none) →
  ∀ i c,(i,c) ∈ l→∃ b,bndC L U i c=some b∧c*b-c*v i≤t-(sumV v l+acc)
 | [],_,_,_,_,_,hm=>by simp at hm
 | (i,c)::r,acc,t,h,j,d,hm=>by
  simp only[upM] at h
  split at h
  ·rename_i b hb
   have h1:=upM_ok hL hU h
   have h2:c*v i≤c*b:=by
    cases c with
    | ofNat n=>exact Int.mul_le_mul_of_nonneg_left (hU i b hb) (Int.natCast_nonneg n)
    | negSucc n=>exact Int.mul_le_mul_of_nonpos_left (by omega) (hL i b hb)
   rcases List.mem_cons.1 hm with e | hm
   ·cases e
    exact⟨b,hb,by simp only[sumV] at h1 ⊢; omega⟩
   ·obtain⟨b',hb',h3⟩:=upM_lack hL hU h j d hm
    exact⟨b',hb',by simp only[sumV]; omega⟩
  ·exact absurd h (by
    intro h
    have:∀ {l:List (Nat × Int)} {acc:Int} {p:Nat × Int} {t:Int},upM L U l acc (some p)≠some (t,none):=by
     intro l
     induction l with
     | nil=>intro acc p t h; simp [upM] at h
     | cons q l ih =>
      intro acc p t h
      obtain⟨i,c⟩:=q
      simp only[upM] at h
      split at h
      ·exact ih h
      ·simp at h
    exact this h)
theorem sub_div {n u x t:Int}(hn:0<n) (h:n*u-n*x≤t):u-t / n≤x:=by
 have:u-x≤t / n:=Int.le_ediv_of_mul_le hn (by rw[Int.sub_mul,Int.mul_comm u,Int.mul_comm x]; exact h)
 omega
theorem prop1_ok {L U:Tr Int}{t:Int}{s:FS}(hs:s.Ok v b) {i:Nat}{c:Int}(h:∃ k,bndC L U i c=some k∧c*k-c*v i≤t):(prop1 L U t s i c).Ok v b:=by
 obtain⟨k,hk,h⟩:=h
 unfold prop1
 split
 ·exact hs
 ·rename_i c
  have hk:U.get i=some k:=hk
  rw[hk]
  exact hs.setL (sub_div (by omega) h)
 ·rename_i c
  have hk:L.get i=some k:=hk
  rw[hk]
  refine hs.setU ?_
  have h2:=sub_div (n:=((c+1:Nat):Int)) (u := -k) (x := -v i) (t:=t) (by omega) (by
   have e1:Int.negSucc c*k = -(((c+1:Nat):Int)*k):=by rw[Int.negSucc_eq,Int.neg_mul]; rfl
   have e2:Int.negSucc c*v i = -(((c+1:Nat):Int)*v i):=by rw[Int.negSucc_eq,Int.neg_mul]; rfl
   rw[Int.mul_neg,Int.mul_neg]; omega)
  omega
theorem propG_ok {L U:Tr Int}{t:Int}:∀ {l:List (Nat × Int)}{s:FS},s.Ok v b→(∀ i c,(i,c) ∈ l→∃ k,bndC L U i c=some k∧c*k-c*v i≤t)→(propG L U t l s).Ok v b
 | [],_,hs,_=>hs
 | (i,c)::r,_,hs,h=>propG_ok (l:=r) (prop1_ok hs (h i c (.head _))) fun j d hm=>h j d (.tail _ hm)
theorem propF_ok {s:FS}(hs:s.Ok v b) {f:LF}(hf:0≤f.val v):(propF s f).Ok v b:=by
 unfold propF
 split
 ·exact hs
 ·rename_i t p h
  have:=upM_ok hs.L hs.U h
  refine hs.addGe ?_
  simp only[LF.val,sumV] at hf ⊢
  simp only at this
  omega
 ·rename_i t h
  have h1:=upM_ok hs.L hs.U h
  have h2:=upM_lack hs.L hs.U h
  simp only[LF.val] at hf
  simp only at h1
  cases e:isNeg t
  ·rw[cond_false,frcI_eq]
   exact propG_ok hs fun i c hm=>by
    obtain⟨k,hk,h3⟩:=h2 i c hm
    exact⟨k,hk,by omega⟩
  ·have:=isNeg_ok e; omega
theorem propM_ok:∀ (l:List LF) {s:FS},(∀ f ∈ l,0≤f.val v)→s.Ok v b→(propM l s).Ok v b
 | [],_,_,hs=>hs
 | f::l,s,h,hs=>by
  simp only[propM]
  exact propM_ok l (fun g hg=>h g (.tail _ hg)) (propF_ok hs (h f (.head _)))
theorem unit1_ok {g:Nat→Option (List Lit)}(hg:∀ r c,g r=some c→Some v b c) {s:FS}(hs:s.Ok v b) (r:Nat):(unit1 g s r).Ok v b:=by
 unfold unit1
 cases Nat.beq r 7
 ·rw[cond_false]
  split
  ·rename_i c hc
   exact unitL_ok hs (hg r c hc)
  ·exact hs
 ·exact propM_ok s.M hs.M hs
theorem units_ok {g:Nat→Option (List Lit)}(hg:∀ r c,g r=some c→Some v b c):∀ (l:List Nat) {s:FS},s.Ok v b→(units g l s).Ok v b
 | [],_,hs=>hs
 | r::l,_,hs=>units_ok hg l (unit1_ok hg hs r)
theorem bad_or {s:FS}(hs:s.Ok v b) {x:Bool}(h:(s.bad||x)=true):x=true:=by rw[hs.ok] at h; exact h
theorem chk_ok {g:Nat→Option (List Lit)}(hg:∀ r c,g r=some c→Some v b c):∀ (k:Ct) (o:Option (Nat × List Lit)) (s:FS),chk g k o s=true→s.Ok v b →
  match o with
  | none=>False
  | some (_,c)=>¬ Some v b c:=by
 intro k
 induction k with
 | bot =>
  intro o s h hs
  cases o with
  | none=>simp only[chk] at h; rw[hs.ok] at h; simp at h
  | some c=>simp [chk] at h
 | nil =>
  intro o s h hs
  cases o with
  | none=>simp [chk] at h
  | some c =>
   obtain⟨q,c⟩:=c
   cases c with
   | nil=>exact fun ⟨l,hl,_⟩=>by simp at hl
   | cons=>simp [chk] at h
 | lin o' l =>
  intro o s h hs
  cases o with
  | none=>simp only[chk] at h; exact linC_ok hs h
  | some c=>simp [chk] at h
 | us l k ih =>
  intro o s h hs
  cases o with
  | none =>
   simp only[chk] at h
   have h1:=units_ok hg l hs
   exact ih none _ (bad_or h1 h) h1
  | some c=>simp [chk] at h
 | case r l ih =>
  intro o s h hs
  cases o with
  | none =>
   simp only[chk] at h
   split at h
   ·rename_i c hc
    exact ih (some (2*r,c)) s h hs (hg r c hc)
   ·simp at h
  | some c=>simp [chk] at h
 | alt a r iha ihr =>
  intro o s h hs
  cases o with
  | none=>simp [chk] at h
  | some c =>
   obtain⟨q,c⟩:=c
   cases c with
   | nil=>simp [chk] at h
   | cons l c =>
    simp only[chk,Bool.and_eq_true] at h
    rintro ⟨x,hx,hh⟩
    rcases List.mem_cons.1 hx with rfl | hx
    ·have h1:=hs.push (key:=q) hh
     exact iha none _ (bad_or h1 h.1) h1
    ·exact ihr (some (q,c)) s h.2 hs ⟨x,hx,hh⟩
 | sk r ihr =>
  intro o s h hs
  cases o with
  | none=>simp [chk] at h
  | some c =>
   obtain⟨q,c⟩:=c
   cases c with
   | nil=>simp [chk] at h
   | cons l c =>
    simp only[chk,Bool.and_eq_true] at h
    rintro ⟨x,hx,hh⟩
    rcases List.mem_cons.1 hx with rfl | hx
    ·exact hs.ref h.1 hh
    ·exact ihr (some (q,c)) s h.2 hs ⟨x,hx,hh⟩
 | keep r ih =>
  intro o s h hs
  cases o with
  | none=>simp [chk] at h
  | some c=>obtain⟨q,c⟩:=c; cases c <;> simp [chk] at h
 | neq j a b' iha ihb =>
  intro o s h hs
  cases o with
  | none =>
   simp only[chk] at h
   split at h
   ·rename_i q f hf
    simp only[Bool.and_eq_true] at h
    have hne:f.val v≠0:=hs.Q _ (List.mem_of_find?_eq_some hf)
    rcases Int.lt_or_lt_of_ne hne with hlt | hlt
    ·have h1:=hs.push (key:=2*(8*j+7)) (l:=.ge (decF f.neg)) (by simp only[Lit.holds,decF_val,neg_val]; omega)
     exact ihb none _ (bad_or h1 h.2) h1
    ·have h1:=hs.push (key:=2*(8*j+7)) (l:=.ge (decF f)) (by simp only[Lit.holds,decF_val]; omega)
     exact iha none _ (bad_or h1 h.1) h1
   ·simp at h
  | some c=>simp [chk] at h
theorem unitC_ok {g:Nat→Option (List Lit)}(hg:∀ r c,g r=some c→Some v b c):∀ (k:Ct) (q:Nat) (c:List Lit) (s:FS) {x:Lit},unitC g k q c s=some x→s.Ok v b→Some v b c→x.holds v b:=by
 intro k
 induction k with
 | alt a r _ ihr =>
  intro q c s x h hs hc
  cases c with
  | nil=>simp [unitC] at h
  | cons l c =>
   simp only[unitC] at h
   cases e:((s.push q l).bad||chk g a none (s.push q l))
   ·rw[e] at h; simp at h
   ·rw[e,cond_true] at h
    obtain⟨y,hy,hh⟩:=hc
    rcases List.mem_cons.1 hy with rfl | hy
    ·have h1:=hs.push (key:=q) hh
     exact(chk_ok hg a none _ (bad_or h1 e) h1).elim
    ·exact ihr q c s h hs ⟨y,hy,hh⟩
 | sk r ihr =>
  intro q c s x h hs hc
  cases c with
  | nil=>simp [unitC] at h
  | cons l c =>
   simp only[unitC] at h
   cases e:s.ref l
   ·rw[e] at h; simp at h
   ·rw[e,cond_true] at h
    obtain⟨y,hy,hh⟩:=hc
    rcases List.mem_cons.1 hy with rfl | hy
    ·exact(hs.ref e hh).elim
    ·exact ihr q c s h hs ⟨y,hy,hh⟩
 | keep r _ =>
  intro q c s x h hs hc
  cases c with
  | nil=>simp [unitC] at h
  | cons l c =>
   simp only[unitC] at h
   cases e:chk g r (some (q,c)) s
   ·rw[e] at h; simp at h
   ·rw[e,cond_true,Option.some.injEq] at h
    subst h
    obtain⟨y,hy,hh⟩:=hc
    rcases List.mem_cons.1 hy with rfl | hy
    ·exact hh
    ·exact absurd ⟨y,hy,hh⟩ (chk_ok hg r (some (q,c)) s e hs)
 | _=>intro q c s x h; simp [unitC] at h
theorem runA_ok {T:List SI}:∀ (i:Nat) (asm:List (SB × Bool)) {s:FS},(∀ p ∈ asm,SB.den E p.1=p.2)→s.Ok (vOf E T) E.bool→(runA T i asm s).Ok (vOf E T) E.bool
 | _,[],_,_,hs=>hs
 | i,p::r,s,ha,hs=>by
  simp only[runA]
  split
  ·rename_i l hl
   exact runA_ok (i+1) r (fun q hq=>ha q (.tail _ hq)) (hs.push ((litS_ok p.1 hl).2 (ha p (.head _))))
  ·exact runA_ok (i+1) r (fun q hq=>ha q (.tail _ hq)) hs
theorem passC_ok (k:Nat):∀ (i:Nat) (l:List (List Lit)) {s:FS},All v b l→s.Ok v b→(passC k i l s).Ok v b
 | _,[],_,_,hs=>hs
 | i,c::r,s,ha,hs=>passC_ok k (i+1) r (fun x hx=>ha x (.tail _ hx)) (unitL_ok hs (ha c (.head _)))
theorem bndX_ok {T:List SI}{L U:Tr Int}{x:SI}{p:Int × Int}(hL:∀ i k,L.get i=some k→k≤vOf E T i) (hU:∀ i k,U.get i=some k→vOf E T i≤k) (h:bndX L U x=some p):p.1≤x.den E∧x.den E≤p.2:=by
 unfold bndX at h
 split at h
 ·cases h; exact⟨Int.le_refl _,Int.le_refl _⟩
 ·rename_i r
  split at h
  ·rename_i l u hl hu
   cases h
   have h1:=hL _ _ hl
   have h2:=hU _ _ hu
   rw[vOf_even] at h1 h2
   exact⟨h1,h2⟩
  ·simp at h
 ·rename_i r c
  split at h
  ·rename_i l u hl hu
   cases h
   have h1:=hL _ _ hl
   have h2:=hU _ _ hu
   rw[vOf_even] at h1 h2
   simp only[SI.den]
   omega
  ·simp at h
 ·simp at h
theorem prodA_ok {T:List SI}{i:Nat}{n:Int}{x y:SI}{s:FS}(ht:T[i]?=some (.mul (.quo x (.lit n)) y)) (hs:s.Ok (vOf E T) E.bool):(prodA T i x n y s).Ok (vOf E T) E.bool:=by
 obtain⟨F,Q,N,B,L,U,bad,M⟩:=s
 unfold prodA
 have hv:vOf E T (2*i+1)=((x.den E).tdiv n)*y.den E:=by
  rw[vOf_odd (a:=.mul (.quo x (.lit n)) y) (by omega) (by rwa [show (2*i+1) / 2=i by omega])]; simp only[SI.den]
 simp only
 split
 ·rename_i l u hb
  obtain⟨h1,h2⟩:=bndX_ok (T:=T) hs.L hs.U hb
  cases e1:decide (0<n∧0≤l)
  ·exact hs
  ·have e1:=of_decide_eq_true e1
   rw[cond_true]
   cases e2:decide (u<n)
   ·rw[cond_false]
    cases e3:decide (n≤l∧u<2*n)
    ·exact hs
    ·have e3:=of_decide_eq_true e3
     rw[cond_true]
     split
     ·rename_i f hf
      refine hs.add ?_
      have e:x.den E / n=1:=(Int.ediv_eq_iff_of_pos e1.1).2 ⟨by omega,by omega⟩
      rw[Int.tdiv_eq_ediv_of_nonneg (by omega),e,Int.one_mul] at hv
      simp only[Lit.holds,add_val,neg_val,val_one,linS_ok y hf,hv]
      omega
     ·exact hs
   ·have e2:=of_decide_eq_true e2
    rw[cond_true]
    rw[Int.tdiv_eq_ediv_of_nonneg (by omega),Int.ediv_eq_zero_of_lt (by omega) (by omega),Int.zero_mul] at hv
    refine⟨hs.F,hs.Q,hs.N,hs.B,fun j k hk=>?_,fun j k hk=>?_,hs.ok,hs.M⟩
    ·simp only[Tr.get_set] at hk
     split at hk
     ·rename_i e; cases hk; rw[e,hv]; exact Int.le_refl 0
     ·exact hs.L j k hk
    ·simp only[Tr.get_set] at hk
     split at hk
     ·rename_i e; cases hk; rw[e,hv]; exact Int.le_refl 0
     ·exact hs.U j k hk
 ·exact hs
theorem prods_ok {T:List SI}:∀ (l:List SI) (i:Nat) {s:FS},(∀ k t,l[k]?=some t→T[i+k]?=some t)→s.Ok (vOf E T) E.bool→(prodsA T i l s).Ok (vOf E T) E.bool
 | [],_,_,_,hs=>hs
 | t::l,i,s,h,hs=>by
  unfold prodsA
  refine prods_ok l (i+1) (fun k t' hk=>by have:=h (k+1) t' (by simpa using hk); rwa [show i+(k+1)=i+1+k by omega] at this) ?_
  have h0:=h 0 t (by simp)
  rw[Nat.add_zero] at h0
  unfold prod1
  split
  ·exact prodA_ok h0 hs
  ·exact hs
theorem runS_ok {a:CutΦ}(ha:a.Holds E) {g:Nat→Option (List Lit)}{T:List SI}(hT:∃ r,T=a.tbl++r) {asm:List (SB × Bool)}(hg:∀ r c,g r=some c→Some (vOf E T) E.bool c) (hA:∀ p ∈ asm,SB.den E p.1=p.2) :
  ∀ (l:List St) {s s':FS},runS a g asm T l s=some s'→s.Ok (vOf E T) E.bool→s'.Ok (vOf E T) E.bool
 | [],s,s',h,hs=>by simp only[runS,Option.some.injEq] at h; subst h; exact hs
 | .asms::r,s,s',h,hs=>by simp only[runS] at h; exact runS_ok ha hT hg hA r h (runA_ok 0 asm hA hs)
 | .pass::r,s,s',h,hs=>by
  simp only[runS] at h
  refine runS_ok ha hT hg hA r h ?_
  obtain⟨q,rfl⟩:=hT
  exact passC_ok 1 0 _ (winC_ok ha q) (passC_ok 0 0 _ (ha.cls q) hs)
 | .ext _::r,s,s',h,hs=>by simp only[runS] at h; exact runS_ok ha hT hg hA r h hs
 | .us l::r,s,s',h,hs=>by simp only[runS] at h; exact runS_ok ha hT hg hA r h (units_ok hg l hs)
 | .unit q l::r,s,s',h,hs=>by
  simp only[runS] at h
  split at h
  ·rename_i c hc
   split at h
   ·rename_i x hx
    exact runS_ok ha hT hg hA r h (hs.push (unitC_ok hg l (2*q) c s hx hs (hg q c hc)))
   ·simp at h
  ·simp at h
 | .prods::r,s,s',h,hs=>by
  simp only[runS] at h
  exact runS_ok ha hT hg hA r h (prods_ok T 0 (fun k t hk=>by rwa [Nat.zero_add]) hs)
 | .hav i f c::r,s,s',h,hs=>by
  simp only[runS] at h
  cases e:((s.push (2*(8*i+6)) (.ge (decF f.neg))).bad||chk g c none (s.push (2*(8*i+6)) (.ge (decF f.neg))))
  ·rw[e] at h; simp at h
  ·rw[e,cond_true] at h
   refine runS_ok ha hT hg hA r h (hs.push ?_)
   show 0≤f.val (vOf E T)
   rcases Int.lt_or_le (f.val (vOf E T)) 0 with hf | hf
   ·have h1:=hs.push (key:=2*(8*i+6)) (l:=.ge (decF f.neg)) (by simp only[Lit.holds,decF_val,neg_val]; omega)
    exact(chk_ok hg c none _ (bad_or h1 e) h1).elim
   ·exact hf
theorem pushN_ok:∀ {c:List Lit}{p:Nat}{s:FS},s.Ok v b→(∀ l ∈ c,¬ l.holds v b)→(pushN s p c).Ok v b
 | [],_,s,hs,_=>hs
 | l::r,p,s,hs,h=>by
  show (pushN (s.push (2*(8*p+5)) (Lit.not l)) (p+1) r).Ok v b
  exact pushN_ok (hs.push (not_holds.2 (h l (.head _)))) fun x hx=>h x (.tail _ hx)
theorem goalC_ok {g:Nat→Option (List Lit)}(hg:∀ r c,g r=some c→Some v b c) {s:FS}(hs:s.Ok v b) {c:List Lit}{k:Ct}(h:goalC g s c k=true):Some v b c:=by
 apply Classical.byContradiction
 intro hn
 have h1:=pushN_ok (p:=0) hs fun l hl hh=>hn ⟨l,hl,hh⟩
 exact chk_ok hg k none _ (bad_or h1 h) h1
theorem goalI_ok {g:Nat→Option (List Lit)}(hg:∀ r c,g r=some c→Some v b c) {s:FS}(hs:s.Ok v b) {r:Nat}{c:List Lit}{k:Ct}(h:goalI g s r c k=true):Some v b c:=by
 apply Classical.byContradiction
 intro hn
 have h1:=pushN_ok (p:=0) hs fun l hl hh=>hn ⟨l,hl,hh⟩
 have h2:=bad_or h1 h
 have h3:=unit1_ok hg h1 r
 exact chk_ok hg k none _ (bad_or h3 h2) h3
theorem goal1 {g:Nat→Option (List Lit)}(hg:∀ r c,g r=some c→Some v b c) {s:FS}(hs:s.Ok v b) {l:Lit}{k:Ct}(h:goalC g s [l] k=true):l.holds v b:=by
 obtain⟨x,hx,hh⟩:=goalC_ok hg hs h
 rw[List.mem_singleton.1 hx] at hh
 exact hh
theorem getC_ok {a:CutΦ}(ha:a.Holds E) {T:List SI}(hT:∃ r,T=a.tbl++r) {hyp:List (List Lit)}(hh:All (vOf E T) E.bool hyp):∀ r c,getC a T hyp r=some c→Some (vOf E T) E.bool c:=by
 intro r c h
 unfold getC at h
 split at h
 ·obtain⟨q,rfl⟩:=hT
  exact ha.cls q c (List.mem_of_getElem? h)
 ·obtain⟨q,rfl⟩:=hT
  exact winC_ok ha q c (List.mem_of_getElem? h)
 ·split at h
  ·rename_i q hq
   refine clsS_ok h ?_
   unfold refThy at hq
   split at hq
   ·rename_i t _
    rcases List.mem_append.1 (List.mem_of_getElem? hq) with hm | hm
    ·rcases List.mem_append.1 hm with hm | hm
     ·exact thy_ok t q hm
     ·exact thyStp_ok ha.stps t q hm
    ·exact cong_ok t q hm
   ·simp at hq
  ·simp at h
 ·exact hh c (List.mem_of_getElem? h)
theorem all_nil:All v b []:=fun c hc=>by simp at hc
theorem asmT_app:∀ {l:List (SB × Bool)}{T:List SI},∃ r,asmT T l=T++r
 | [],T=>⟨[],by simp [asmT]⟩
 | p::l,T=>by
  obtain⟨x,hx⟩:=addNew_app (l:=atomsB p.1) (T:=T)
  obtain⟨y,hy⟩:=asmT_app (l:=l) (T:=T++x)
  exact⟨x++y,by simp only[asmT]; rw[hx,hy,List.append_assoc]⟩
theorem thyT_app {a:CutΦ}{T:List SI}{q:Nat}:∃ r,thyT a T q=T++r:=by
 unfold thyT
 cases Nat.beq (q % 8) 2
 ·exact⟨[],by simp⟩
 ·rw[cond_true]
  split
  ·exact addNew_app
  ·exact⟨[],by simp⟩
theorem thysT_app {a:CutΦ}:∀ {l:List Nat}{T:List SI},∃ r,thysT a T l=T++r
 | [],T=>⟨[],by simp [thysT]⟩
 | q::l,T=>by
  obtain⟨x,hx⟩:=thyT_app (a:=a) (T:=T) (q:=q)
  obtain⟨y,hy⟩:=thysT_app (a:=a) (l:=l) (T:=T++x)
  exact⟨x++y,by simp only[thysT]; rw[hx,hy,List.append_assoc]⟩
theorem extT_app {a:CutΦ}{asm:List (SB × Bool)}:∀ {l:List St}{T:List SI},∃ r,extT a asm l T=T++r
 | [],T=>⟨[],by simp [extT]⟩
 | .asms::r,T=>by
  obtain⟨x,hx⟩:=asmT_app (l:=asm) (T:=T)
  obtain⟨y,hy⟩:=extT_app (a:=a) (asm:=asm) (l:=r) (T:=T++x)
  exact⟨x++y,by simp only[extT]; rw[hx,hy,List.append_assoc]⟩
 | .pass::r,T=>extT_app (l:=r)
 | .ext q::r,T=>by
  obtain⟨x,hx⟩:=thyT_app (a:=a) (T:=T) (q:=q)
  obtain⟨y,hy⟩:=extT_app (a:=a) (asm:=asm) (l:=r) (T:=T++x)
  exact⟨x++y,by simp only[extT]; rw[hx,hy,List.append_assoc]⟩
 | .us l::r,T=>by
  obtain⟨x,hx⟩:=thysT_app (a:=a) (l:=l) (T:=T)
  obtain⟨y,hy⟩:=extT_app (a:=a) (asm:=asm) (l:=r) (T:=T++x)
  exact⟨x++y,by simp only[extT]; rw[hx,hy,List.append_assoc]⟩
 | .unit q _::r,T=>by
  obtain⟨x,hx⟩:=thyT_app (a:=a) (T:=T) (q:=q)
  obtain⟨y,hy⟩:=extT_app (a:=a) (asm:=asm) (l:=r) (T:=T++x)
  exact⟨x++y,by simp only[extT]; rw[hx,hy,List.append_assoc]⟩
 | .hav _ _ _::r,T=>extT_app (l:=r)
 | .prods::r,T=>extT_app (l:=r)
theorem rngFS_ok:∀ (j:Nat) (l:List (Option (Int × Int))) {s:FS},(∀ i q,l[i]?=some (some q)→q.1≤v (2*(j+i))∧v (2*(j+i))≤q.2)→s.Ok v b→(rngFS j l s).Ok v b
 | _,[],_,_,hs=>hs
 | j,none::r,s,h,hs=>by
  simp only[rngFS]
  exact rngFS_ok (j+1) r (fun i q hq=>by have:=h (i+1) q (by simpa using hq); rwa [show j+(i+1)=j+1+i by omega] at this) hs
 | j,some q::r,⟨F,Q,N,B,L,U,bad,M⟩,h,hs=>by
  simp only[rngFS]
  have h0:=h 0 q (by simp)
  refine rngFS_ok (j+1) r (fun i q hq=>by have:=h (i+1) q (by simpa using hq); rwa [show j+(i+1)=j+1+i by omega] at this) ?_
  refine⟨hs.F,hs.Q,hs.N,hs.B,fun i k hk=>?_,fun i k hk=>?_,hs.ok,hs.M⟩
  ·simp only[Tr.get_set] at hk
   split at hk
   ·rename_i e; cases hk; rw[e]; exact h0.1
   ·exact hs.L i k hk
  ·simp only[Tr.get_set] at hk
   split at hk
   ·rename_i e; cases hk; rw[e]; exact h0.2
   ·exact hs.U i k hk
theorem rngFS_ok' (hG:G.Ok E) (T:List SI):(rngFS 0 G.rng fs0).Ok (vOf E T) E.bool :=
 rngFS_ok 0 G.rng (fun i q hq=>by rw[vOf_even,Nat.zero_add]; exact hG.1 i q hq) FS.Ok.nil
variable {σ:Sub}
theorem subId_ok (hG:G.Ok E) {T:List SI}{B:List SI}{n:Nat}{f:LF}(h:subId G σ T (B.map (fun t=>t.subst G σ)) n=some f) (r:List SI):f.val (vOf E T)=vOf (inst σ E) (B++r) n:=by
 unfold subId at h
 by_cases hn:n % 2=0
 ·rw[hn,show Nat.beq 0 0=true from rfl,cond_true] at h
  rw[linS_ok _ h,show n=2*(n / 2) by omega,vOf_even,show 2*(n / 2) / 2=n / 2 by omega]
  rfl
 ·have:Nat.beq (n % 2) 0=false:=by
   cases e:Nat.beq (n % 2) 0
   ·rfl
   ·exact absurd (Nat.eq_of_beq_eq_true e) hn
  rw[this,cond_false] at h
  split at h
  ·rename_i a ha
   rw[List.getElem?_map] at ha
   cases hb:B[n / 2]? with
   | none=>rw[hb] at ha; simp at ha
   | some x =>
    rw[hb] at ha
    simp only[Option.map_some,Option.some.injEq] at ha
    subst ha
    have h:f.val (vOf E T)=(x.subst G σ).den E:=by
     cases e:sameAt T (n / 2) (x.subst G σ)
     ·rw[e,cond_false] at h
      cases e:sameAt T (n / 2+1) (x.subst G σ)
      ·rw[e,cond_false] at h; exact linS_ok _ h
      ·rw[e,cond_true] at h
       cases h
       rw[val_one]
       unfold sameAt at e
       split at e
       ·rename_i y hy
        exact vOf_odd (by omega) (by rw[show (n+2) / 2=n / 2+1 by omega,hy,eqS_ok e])
       ·simp at e
     ·rw[e,cond_true] at h
      cases h
      rw[val_one]
      unfold sameAt at e
      split at e
      ·rename_i y hy
       exact vOf_odd hn (by rw[hy,eqS_ok e])
      ·simp at e
    rw[h,(subst_den hG x).1]
    have hl:n / 2<B.length:=by
     rcases Nat.lt_or_ge (n / 2) B.length with h | h
     ·exact h
     ·rw[List.getElem?_eq_none h] at hb; simp at hb
    exact(vOf_odd hn (by rw[List.getElem?_append_left hl]; exact hb)).symm
  ·simp at h
def SubOK (v v':Nat→Int) (g:Tr (Option LF)):Prop:=∀ n f,g.get n=some (some f)→f.val v=v' n
theorem gTr_get (F:Nat→Option LF):∀ {l:List Nat}{n:Nat}{x:Option LF},(gTr F l).get n=some x→x=F n
 | [],n,x,h=>by simp [gTr,Tr.get] at h
 | m::l,n,x,h=>by
  simp only[gTr,Tr.get_set] at h
  split at h
  ·rename_i e
   subst e
   exact(Option.some.inj h).symm
  ·exact gTr_get F h
theorem sameN_ok {v v':Nat→Int}{g:Tr (Option LF)}(hg:SubOK v v' g) {n:Nat}(h:sameN g n=true):v n=v' n:=by
 unfold sameN at h
 split at h
 ·rename_i f e
  rw[← hg n f e,eqF_ok h,val_one]
 ·simp at h
theorem subL_ok {v v':Nat→Int}{g:Tr (Option LF)}(hg:SubOK v v' g):∀ {l:List (Nat × Int)}{f:LF},subL g l=some f→f.val v=sumV v' l
 | [],f,h=>by simp only[subL,Option.some.injEq] at h; subst h; simp [LF.val,sumV]
 | (i,c)::r,f,h=>by
  simp only[subL] at h
  split at h
  ·rename_i x y e1 e2
   cases h
   rw[add_val,scl_val,hg i x e1,subL_ok hg e2]
   rfl
  ·simp at h
theorem subF_ok {v v':Nat→Int}{g:Tr (Option LF)}(hg:SubOK v v' g) {f h:LF}(e:subF g f=some h):h.val v=f.val v':=by
 unfold subF at e
 split at e
 ·rename_i x e'
  cases e
  have:=subL_ok hg e'
  simp only[LF.val] at this ⊢
  omega
 ·simp at e
theorem subLit_ok {T:List SI}{v':Nat→Int}{bools:List SB}{g:Tr (Option LF)}{b':Nat→Bool}(hg:SubOK (vOf E T) v' g) (hb:∀ i,(nthT bools (.lit false) i).den E=b' i) {l m:Lit}(e:subLit T bools g l=some m)
  (h:m.holds (vOf E T) E.bool):l.holds v' b':=by
 cases l with
 | bl i t =>
  have:=(litS_ok _ e).1 h
  rw[hb] at this
  exact this
 | _ =>
  simp only[subLit,Option.map_eq_some_iff] at e
  obtain⟨x,e,rfl⟩:=e
  have:=subF_ok hg e
  simp only[Lit.holds] at h ⊢
  rw[← this]; exact h
theorem subC_ok {T:List SI}{v':Nat→Int}{bools:List SB}{g:Tr (Option LF)}{b':Nat→Bool}(hg:SubOK (vOf E T) v' g) (hb:∀ i,(nthT bools (.lit false) i).den E=b' i) :
  ∀ {c d:List Lit},subC T bools g c=some d→Some (vOf E T) E.bool d→Some v' b' c
 | [],d,e,h=>by simp only[subC,Option.some.injEq] at e; subst e; exact h.elim fun _ h=>by simp at h
 | x::r,d,e,h=>by
  simp only[subC] at e
  split at e
  ·rename_i y l e1 e2
   cases e
   obtain⟨z,hz,h⟩:=h
   rcases List.mem_cons.1 hz with rfl | hz
   ·exact⟨x,.head _,subLit_ok hg hb e1 h⟩
   ·obtain⟨w,hw,h⟩:=subC_ok hg hb e2 ⟨z,hz,h⟩
    exact⟨w,.tail _ hw,h⟩
  ·simp at e
theorem sumV_congr {v v':Nat→Int}:∀ {l:List (Nat × Int)},(∀ p ∈ l,v p.1=v' p.1)→sumV v l=sumV v' l
 | [],_=>rfl
 | (i,c)::r,h=>by simp only[sumV]; rw[h (i,c) (.head _),sumV_congr fun p hp=>h p (.tail _ hp)]
theorem sameLit_ok {v v':Nat→Int}{bools:List SB}{g:Tr (Option LF)}{b b':Nat→Bool}(hg:SubOK v v' g) (hb:∀ i,nthT bools (.lit false) i=.var i→b i=b' i) {l:Lit}(e:sameLit bools g l=true) (h:l.holds v b):l.holds v' b':=by
 have key:∀ f:LF,(f.1.map (·.1)).all (sameN g)=true→f.val v=f.val v':=by
  intro f hf
  simp only[LF.val]
  rw[sumV_congr fun p hp=>?_]
  exact sameN_ok hg (List.all_eq_true.1 hf p.1 (List.mem_map_of_mem hp))
 cases l with
 | bl i t =>
  have:=hb i (of_decide_eq_true e)
  simp only[Lit.holds] at h ⊢
  rw[← this]; exact h
 | _ =>
  simp only[sameLit,Lit.ids] at e
  simp only[Lit.holds] at h ⊢
  rw[← key _ e]; exact h
theorem emod_turn (i u n:Int) (hn:0<n) (h0:0≤u) (h1:u<n):(u=(i+1) % n→(i-u) % n=n-1)∧(u≠(i+1) % n→(i+1-u) % n=(i-u) % n+1):=by
 have hm:=Int.emod_nonneg (i+1-u) (show n≠0 by omega)
 have hm':=Int.emod_lt_of_pos (i+1-u) hn
 have back:(i+1) % n=((i+1-u) % n+u) % n:=by rw[Int.emod_add_emod]; congr 1; omega
 have fwd:(i-u) % n=((i+1-u) % n+(-1)) % n:=by rw[Int.emod_add_emod]; congr 1; omega
 constructor
 ·intro e
  have hz:(i+1-u) % n=0:=by
   rcases Int.lt_or_le ((i+1-u) % n+u) n with h | h
   ·rw[back,Int.emod_eq_of_lt (by omega) h] at e; omega
   ·have e2:((i+1-u) % n+u) % n=(i+1-u) % n+u-n:=by
     rw[← Int.sub_emod_right]
     exact Int.emod_eq_of_lt (by omega) (by omega)
    rw[back,e2] at e; omega
  have e3:(0+(-1):Int) % n=((-1)+n) % n:=by rw[Int.add_emod_right]; simp
  rw[fwd,hz,e3,Int.emod_eq_of_lt (by omega) (by omega)]; omega
 ·intro e
  have hz:(i+1-u) % n≠0:=by
   intro hz
   rw[hz,Int.zero_add,Int.emod_eq_of_lt h0 h1] at back
   exact e back.symm
  have h3:=Int.emod_eq_of_lt (a:=(i+1-u) % n+(-1)) (b:=n) (by omega) (by omega)
  rw[fwd,h3]; omega
theorem all_same {v v':Nat→Int}{bools:List SB}{g:Tr (Option LF)}{b b':Nat→Bool}(hg:SubOK v v' g) (hb:∀ i,nthT bools (.lit false) i=.var i→b i=b' i) {c:List Lit}(e:c.all (sameLit bools g)=true) (h:Some v b c):Some v' b' c:=by
 obtain⟨l,hl,hh⟩:=h
 exact⟨l,hl,sameLit_ok hg hb (List.all_eq_true.1 e l hl) hh⟩
theorem clsK_ok {g:Nat→Option (List Lit)}{T:List SI}(hgc:∀ r c,g r=some c→Some (vOf E T) E.bool c) {s:FS}(hs:s.Ok (vOf E T) E.bool) {eq:Bool}{bools:List SB}{gg:Tr (Option LF)}
  {v':Nat→Int} {b':Nat→Bool} (hg:SubOK (vOf E T) v' gg) (hb:∀ i,(nthT bools (.lit false) i).den E=b' i) {l0:List (List Lit)} (hl0:eq=true→All (vOf E T) E.bool l0) :
  ∀ (i p:Nat) (l:List (List Lit)) (ks:List (Nat × Ct)),clsK g s eq T bools gg i p l ks=true→(eq=true→∀ c ∈ l,c ∈ l0)→All v' b' l
 | _,_,[],_,_,_=>all_nil
 | i,p,c::r,ks,h,hin=>by
  simp only[clsK] at h
  intro x hx
  cases e:(eq&&c.all (sameLit bools gg))
  ·rw[e,cond_false] at h
   split at h
   ·rename_i c' hc'
    have key:∃ k p' ks',goalI g s (8*p) c' k=true∧clsK g s eq T bools gg (i+1) p' r ks'=true:=by
     split at h
     ·rename_i j k ks'
      cases e2:Nat.beq i j
      ·rw[e2,cond_false,Bool.and_eq_true] at h
       exact⟨_,_,_,h.1,h.2⟩
      ·rw[e2,cond_true,Bool.and_eq_true] at h
       exact⟨_,_,_,h.1,h.2⟩
     ·rw[Bool.and_eq_true] at h
      exact⟨_,_,_,h.1,h.2⟩
    obtain⟨k,p',ks',h1,h2⟩:=key
    rcases List.mem_cons.1 hx with rfl | hx
    ·exact subC_ok hg hb hc' (goalI_ok hgc hs h1)
    ·exact clsK_ok hgc hs hg hb hl0 (i+1) p' r _ h2 (fun e c hc=>hin e c (.tail _ hc)) x hx
   ·simp at h
  ·rw[e,cond_true] at h
   rcases List.mem_cons.1 hx with rfl | hx
   ·simp only[Bool.and_eq_true] at e
    exact all_same hg (fun i hi=>by rw[← hb i,hi]; rfl) e.2 (hl0 e.1 x (hin e.1 x (.head _)))
   ·exact clsK_ok hgc hs hg hb hl0 (i+1) (p+1) r _ h (fun e c hc=>hin e c (.tail _ hc)) x hx
theorem findStp_ok {r:Nat}{x y:Int}:∀ {l:List Stp}{u:Stp},findStp r x y l=some u→u ∈ l∧u.row=r∧u.a=x∧u.b=y
 | [],u,h=>by simp [findStp] at h
 | w::l,u,h=>by
  simp only[findStp] at h
  cases e:(Nat.beq w.row r&&decide (w.a=x)&&decide (w.b=y))
  ·rw[e,cond_false] at h
   have:=findStp_ok h
   exact⟨.tail _ this.1,this.2⟩
  ·rw[e,cond_true,Option.some.injEq] at h
   subst h
   simp only[Bool.and_eq_true,decide_eq_true_eq] at e
   exact⟨.head _,Nat.eq_of_beq_eq_true e.1.1,e.1.2,e.2⟩
theorem stpK1_ok {a:CutΦ}(ha:a.Holds E) {g:Nat→Option (List Lit)}{T:List SI}(hgc:∀ r c,g r=some c→Some (vOf E T) E.bool c) {s:FS}(hs:s.Ok (vOf E T) E.bool) {row e:SI}{t:Stp}{ks:List Ct}
  (h:stpK1 g s a T row e t ks=true):∀ j:Int,0≤j→SI.cells E row j=if j<e.den E then t.a else t.b:=by
 intro j hj
 unfold stpK1 at h
 split at h
 ·simp at h
 ·rename_i f he
  have he':=linS_ok (E:=E) _ he
  split at h
  ·rename_i z k
   simp only[Bool.and_eq_true,decide_eq_true_eq] at h
   have h2:=goal1 hgc hs h.2
   simp only[Lit.holds,neg_val,he'] at h2
   rw[if_neg (by omega)]
   exact h.1
  ·rename_i r k
   split at h
   ·rename_i u hu
    obtain⟨h1,h2,h3,h4⟩:=findStp_ok hu
    split at h
    ·rename_i q hq
     have h5:=goal1 hgc hs h
     have hq':=linS_ok (E:=E) _ hq
     simp only[Lit.holds,add_val,neg_val,he',hq'] at h5
     have:=ha.stps u h1 j hj
     rw[h2,h3,h4] at this
     simp only[SI.cells]
     rw[this,show u.e.den E=e.den E by omega]
    ·simp at h
   ·simp at h
  ·rename_i r i w k1 k2 k3
   split at h
   ·rename_i u hu
    obtain⟨h1,h2,h3,h4⟩:=findStp_ok hu
    split at h
    ·rename_i f' i' v' hf hi hv
     simp only[Bool.and_eq_true] at h
     obtain⟨⟨k1,k2⟩,k3⟩:=h
     have k1:=goal1 hgc hs k1
     have k2:=goal1 hgc hs k2
     have k3:=goal1 hgc hs k3
     have hf':=linS_ok (E:=E) _ hf
     have hi':=linS_ok (E:=E) _ hi
     have hv':=linS_ok (E:=E) _ hv
     simp only[Lit.holds,add_val,neg_val,hf',hi',hv',val_shift] at k1 k2
     simp only[Lit.holds,add_val,neg_val,decF_val,hf',he'] at k3
     have:=ha.stps u h1 j hj
     rw[h2,h3,h4] at this
     simp only[SI.cells]
     split
     ·rw[if_pos (by omega)]; omega
     ·rw[this]
      by_cases hq:j<u.e.den E
      ·rw[if_pos hq,if_pos (by omega)]
      ·rw[if_neg hq,if_neg (by omega)]
    ·simp at h
   ·simp at h
  ·simp at h
theorem stpK_ok {a:CutΦ}(ha:a.Holds E) {g:Nat→Option (List Lit)}{T rows:List SI}(hgc:∀ r c,g r=some c→Some (vOf E T) E.bool c) {s:FS}(hs:s.Ok (vOf E T) E.bool) {D:Stp→SI} :
  ∀ {l:List Stp} {ks:List (List Ct)},stpK g s a T rows (l.map D) l ks=true→∀ t ∈ l,∀ j:Int,0≤j→SI.cells E (nthS rows (.con 0) t.row) j=if j<(D t).den E then t.a else t.b
 | [],_,_,t,ht=>by simp at ht
 | t0::l,[],h,t,ht=>by simp [stpK] at h
 | t0::l,k::ks,h,t,ht=>by
  simp only[List.map_cons,stpK,Bool.and_eq_true] at h
  rcases List.mem_cons.1 ht with rfl | ht
  ·exact stpK1_ok ha hgc hs h.1
  ·exact stpK_ok ha hgc hs h.2 t ht
theorem allK_ok {g:Nat→Option (List Lit)}{T:List SI}(hgc:∀ r c,g r=some c→Some (vOf E T) E.bool c) {s:FS}(hs:s.Ok (vOf E T) E.bool) {h0:List Lit}(hh:∀ l ∈ h0,¬ l.holds (vOf E T) E.bool) {bools:List SB}{gg:Tr (Option LF)}
  {v':Nat→Int} {b':Nat→Bool} (hg:SubOK (vOf E T) v' gg) (hb:∀ i,(nthT bools (.lit false) i).den E=b' i):∀ {i:Nat} {l:List (List Lit)} {ks:List Ct},allK g s h0 T bools gg i l ks=true→All v' b' l
 | _,[],_,_=>all_nil
 | i,c::r,[],h=>by
  simp only[allK,Bool.and_eq_true] at h
  intro x hx
  rcases List.mem_cons.1 hx with rfl | hx
  ·have h1:=h.1
   split at h1
   ·rename_i c' hc'
    obtain⟨l,hl,hold⟩:=goalI_ok hgc hs h1
    rcases List.mem_append.1 hl with hl | hl
    ·exact absurd hold (hh l hl)
    ·exact subC_ok hg hb hc' ⟨l,hl,hold⟩
   ·simp at h1
  ·exact allK_ok hgc hs hh hg hb h.2 x hx
 | i,c::r,k::ks,h=>by
  simp only[allK,Bool.and_eq_true] at h
  intro x hx
  rcases List.mem_cons.1 hx with rfl | hx
  ·have h1:=h.1
   split at h1
   ·rename_i c' hc'
    obtain⟨l,hl,hold⟩:=goalI_ok hgc hs h1
    rcases List.mem_append.1 hl with hl | hl
    ·exact absurd hold (hh l hl)
    ·exact subC_ok hg hb hc' ⟨l,hl,hold⟩
   ·simp at h1
  ·exact allK_ok hgc hs hh hg hb h.2 x hx
theorem stopK_ok {a:CutΦ}(ha:a.Holds E) {T:List SI}(hT:∃ r,T=a.tbl++r) {ca cb:List (List Lit)}{s:FS}(hs:s.Ok (vOf E T) E.bool) {eq:Bool}(heq:eq=true→ca=cb) {bools:List SB}{gg:Tr (Option LF)}
  {v':Nat→Int} {b':Nat→Bool} (hg:SubOK (vOf E T) v' gg) (hb:∀ i,(nthT bools (.lit false) i).den E=b' i) {x:LF} {u:Nat} {k:UC}
  (h:stopK (getC a T []) (getC a T ca) s eq T bools gg (.ne (x.1,x.2-u)) cb k=true) :
  All v' b' cb∨(x.val (vOf E T)≠u∧(All (vOf E T) E.bool ca→All v' b' cb)):=by
 simp only[stopK,Bool.and_eq_true,Bool.or_eq_true] at h
 obtain⟨h1,h2⟩:=h
 by_cases hx:x.val (vOf E T)=u
 ·have hoff:¬ (Lit.ne (x.1,x.2-u)).holds (vOf E T) E.bool:=by simp only[Lit.holds,val_shift]; omega
  refine .inl ?_
  split at h2
  ·exact absurd (goal1 (getC_ok ha hT all_nil) hs h2) hoff
  ·exact allK_ok (getC_ok ha hT all_nil) hs (fun l hl=>by rw[List.mem_singleton.1 hl]; exact hoff) hg hb h2
 ·have hoff:(Lit.ne (x.1,x.2-u)).holds (vOf E T) E.bool:=by simp only[Lit.holds,val_shift]; omega
  refine .inr ⟨hx,fun hA=>?_⟩
  rcases h1 with ⟨e,h1⟩ | h1
  ·have:=heq e
   subst this
   intro c hc
   exact all_same hg (fun i hi=>by rw[← hb i,hi]; rfl) (List.all_eq_true.1 h1 c hc) (hA c hc)
  ·exact allK_ok (getC_ok ha hT hA) (hs.push (key:=251) hoff) (fun l hl=>by simp at hl) hg hb h1
theorem stopsK_ok {a:CutΦ}(ha:a.Holds E) {T:List SI}(hT:∃ r,T=a.tbl++r) {v w:Win}{s:FS}(hs:s.Ok (vOf E T) E.bool) {eq:Bool}(heq:eq=true→v.stop=w.stop) {bools:List SB}{gg:Tr (Option LF)}
  {v':Nat→Int} {b':Nat→Bool} (hg:SubOK (vOf E T) v' gg) (hb:∀ i,(nthT bools (.lit false) i).den E=b' i) {x:LF} :
  ∀ {l:List UC} {u0:Nat},stopsK a v w s eq T bools gg x u0 l=true→∀ u cb,u0≤u→u<u0+l.length→w.stop[u]?=some cb→All v' b' cb∨(x.val (vOf E T)≠u∧∃ ca,v.stop[u]?=some ca∧(All (vOf E T) E.bool ca→All v' b' cb))
 | [],u0,_,u,cb,h1,h2,_=>by simp at h2; omega
 | k::l,u0,h,u,cb,h1,h2,hcb=>by
  simp only[stopsK,Bool.and_eq_true] at h
  by_cases e:u=u0
  ·subst e
   have h3:=h.1
   split at h3
   ·rename_i ca cb' hca hcb'
    rw[hcb] at hcb'
    cases hcb'
    rcases stopK_ok ha hT hs (fun e=>by
     rw[heq e,hcb] at hca
     exact(Option.some.inj hca).symm) hg hb h3 with k | ⟨k1,k2⟩
    ·exact .inl k
    ·exact .inr ⟨k1,ca,hca,k2⟩
   ·simp at h3
  ·exact stopsK_ok ha hT hs heq hg hb h.2 u cb (by omega) (by simp at h2; omega) hcb
theorem samesK_ok {a:CutΦ}(ha:a.Holds E) {T:List SI}(hT:∃ r,T=a.tbl++r) {v w:Win}{s:FS}(hs:s.Ok (vOf E T) E.bool) {bools:List SB}{gg:Tr (Option LF)}
  {v':Nat→Int} {b':Nat→Bool} (hg:SubOK (vOf E T) v' gg) (hb:∀ i,(nthT bools (.lit false) i).den E=b' i) :
  ∀ {l:List (List Ct)} {u0:Nat},samesK a v w s T bools gg u0 l=true→∀ u cb,u0≤u→u<u0+l.length→w.stop[u]?=some cb→∃ ca,v.stop[u]?=some ca∧(All (vOf E T) E.bool ca→All v' b' cb)
 | [],u0,_,u,cb,h1,h2,_=>by simp at h2; omega
 | k::l,u0,h,u,cb,h1,h2,hcb=>by
  simp only[samesK,Bool.and_eq_true] at h
  by_cases e:u=u0
  ·subst e
   have h3:=h.1
   split at h3
   ·rename_i ca cb' hca hcb'
    rw[hcb] at hcb'
    cases hcb'
    exact⟨ca,hca,fun hA=>allK_ok (getC_ok ha hT hA) hs (fun l hl=>by simp at hl) hg hb h3⟩
   ·simp at h3
  ·exact samesK_ok ha hT hs hg hb h.2 u cb (by omega) (by simp at h2; omega) hcb
theorem winK_ok {a:CutΦ}{b:Option Win}{eq:Bool}(heq:eq=true→a.win=b) (ha:a.Holds E) {T r':List SI}(hT:T=a.tbl++r') {v':Nat→Int}{b':Nat→Bool}{g:Tr (Option LF)}{s:FS}
  (hg:SubOK (vOf E T) v' g) (hb:∀ i,(nthT σ.bools (.lit false) i).den E=b' i) (hs:s.Ok (vOf E T) E.bool) {k:WC} (h:winK a b eq σ T g s k=true) {w:Win} (hw:b=some w)
  (u:Nat) (cl:List (List Lit)) (hu:u<w.n) (hcl:w.stop[u]?=some cl) (hlt:((nthS σ.ints (.lit 0) w.i).den E+w.d-u) % w.n<(nthS σ.ints (.lit 0) w.i).den E+w.d-w.B-w.n*w.q.val v'):All v' b' cl:=by
 subst hw
 have hgc:=getC_ok ha (T:=T) ⟨r',hT⟩ (hyp:=[]) all_nil
 unfold winK at h
 simp only at h
 split at h
 ·rename_i q i hq hi
  have hq':=subF_ok hg hq
  have hi':i.val (vOf E T)=(nthS σ.ints (.lit 0) w.i).den E+w.d:=by
   split at hi
   ·rename_i f e
    rw[← linS_ok (E:=E) _ e,← Option.some.inj hi]
    simp only[LF.val]
    omega
   ·cases hi
  rw[← hq',← hi'] at hlt
  have hn:(0:Int)<w.n:=by omega
  have hm:=Int.emod_nonneg (i.val (vOf E T)-u) (show (w.n:Int)≠0 by omega)
  split at h
  ·simp only[Bool.and_eq_true] at h
   have h1:=goal1 hgc hs h.1
   have h2:=goal1 hgc hs h.2
   have e1:LF.val (vOf E T) (i.neg.1,i.neg.2+w.B)=w.B-i.val (vOf E T):=by
    have:=neg_val (v:=vOf E T) i
    simp only[LF.val] at this ⊢; omega
   simp only[Lit.holds,e1] at h1 h2
   have:=Int.mul_nonneg (Int.le_of_lt hn) h2
   omega
  ·simp at h
  ·split at h
   ·simp at h
   ·rename_i v hv
    simp only[Bool.and_eq_true,decide_eq_true_eq] at h
    obtain⟨⟨⟨⟨⟨h1,h3⟩,h4⟩,h5⟩,h6⟩,h7⟩:=h
    have hi2:i.val (vOf E T)=E.int v.i+v.d:=by rw[eqF_ok h4]; simp [LF.val,sumV,vOf_even]
    have k1:=goal1 hgc hs h5
    simp only[Lit.holds,add_val,neg_val] at k1
    have hl:=Nat.eq_of_beq_eq_true h6
    obtain⟨ca,hca,himp⟩:=samesK_ok ha ⟨r',hT⟩ hs hg hb h7 u cl (by omega) (by omega) hcl
    refine himp ?_
    have:(v.n:Int)*v.q.val (vOf E T)≤v.n*q.val (vOf E T):=Int.mul_le_mul_of_nonneg_left (by omega) (by omega)
    rw[← h1,← h3,hi2] at hlt
    subst hT
    exact ha.win v hv r' u ca (by omega) hca (by omega)
  ·split at h
   ·simp at h
   ·rename_i v hv
    split at h
    ·simp at h
    ·rename_i x hx
     simp only[Bool.and_eq_true,decide_eq_true_eq] at h
     obtain⟨⟨⟨⟨⟨h1,h2⟩,h3⟩,hd⟩,h4⟩,h6⟩:=h
     have hi2:i.val (vOf E T)=E.int v.i+1:=by rw[eqF_ok h4]; simp [LF.val,sumV,vOf_even]
     have key:∀ {ki:Ct},goalC (getC a T []) s [.ge ([(2*v.i,1)],1)] ki=true→x.val (vOf E T)=(E.int v.i+1) % v.n:=fun hk=>by
      have h5:=goal1 hgc hs hk
      have h5':0≤E.int v.i+1:=by simpa [Lit.holds,LF.val,sumV,vOf_even] using h5
      rw[linS_ok (E:=E) _ hx]
      exact den_tmod h5'
     have turn:=emod_turn (E.int v.i) u v.n (by omega) (by omega) (by omega)
     split at h6
     ·rename_i ki kq t ke kn _ _ _
      simp only[Bool.and_eq_true] at h6
      obtain⟨⟨⟨⟨k0,k1⟩,kt⟩,k3⟩,k4⟩:=h6
      have hx':=key k0
      have k1:=goal1 hgc hs k1
      simp only[Lit.holds,add_val,decF_val,neg_val] at k1
      have ht:t<v.n:=by simpa [Nat.blt_eq] using kt
      have k3:=goal1 hgc hs k3
      simp only[Lit.holds,val_shift] at k3
      split at k4
      ·rename_i c hcc
       have hno:¬ All (vOf E T) E.bool c:=fun hA=>chk_ok (getC_ok ha ⟨r',hT⟩ hA) kn none _ (bad_or hs k4) hs
       have tt:=(emod_turn (E.int v.i) t v.n (by omega) (by omega) (by omega)).1 (by rw[← hx']; omega)
       have hw2:¬ (E.int v.i-t) % v.n<E.int v.i-v.B-v.n*v.q.val (vOf E T):=fun hlt=>by
        subst hT
        exact hno (ha.win v hv r' t c ht hcc (by rw[hd,Int.add_zero]; exact hlt))
       have:(v.n:Int)*(v.q.val (vOf E T)+1)≤v.n*q.val (vOf E T):=Int.mul_le_mul_of_nonneg_left (by omega) (by omega)
       rw[Int.mul_add,Int.mul_one] at this
       rw[← h1,← h3] at hlt
       rw[hi2] at hlt hm
       rw[← h1] at hm
       omega
      ·simp at k4
     ·rename_i ki kq l _ _ _
      simp only[Bool.and_eq_true] at h6
      obtain⟨⟨⟨k0,k1⟩,kl⟩,k2⟩:=h6
      have hx':=key k0
      have k1:=goal1 hgc hs k1
      simp only[Lit.holds,add_val,neg_val] at k1
      have hl:=Nat.eq_of_beq_eq_true kl
      rcases stopsK_ok ha ⟨r',hT⟩ hs (fun e=>by
       have:=heq e
       rw[hv] at this
       rw[Option.some.inj this]) hg hb k2 u cl (by omega) (by omega) hcl with h | ⟨h,ca,hca,hh⟩
      ·exact h
      ·refine hh ?_
       have:=turn.2 (by rw[← hx']; exact fun e=>h e.symm)
       have hmul:(v.n:Int)*v.q.val (vOf E T)≤v.n*q.val (vOf E T):=Int.mul_le_mul_of_nonneg_left (by omega) (by omega)
       rw[← h1,← h3,hi2] at hlt
       subst hT
       exact ha.win v hv r' u ca (by omega) hca (by rw[hd,Int.add_zero]; omega)
     ·simp at h6
 ·simp at h
theorem CutΦ.tstK_ok {a b:CutΦ}{eq:Bool}(heq:eq=true→a=b) (hG:G.Ok E) (ha:a.Holds E) {k:LC}(h:a.tstK b eq G σ k=true):b.Holds (inst σ E):=by
 unfold CutΦ.tstK at h
 simp only at h
 generalize hT:extT a G.asm k.pre _=T at h
 have hT':∃ r,T=a.tbl++r:=by
  rw[← hT]
  obtain⟨x,hx⟩:=addNew_app (l:=winT a.win++extraK b σ (newAt a.tbl (b.tbl.map fun t=>t.subst G σ)) (b.stps.map fun t=>t.e.subst G σ)) (T:=a.tbl)
  rw[hx]
  obtain⟨y,hy⟩:=extT_app (a:=a) (asm:=G.asm) (l:=k.pre) (T:=a.tbl++x)
  exact⟨x++y,by rw[hy,List.append_assoc]⟩
 have hgc:=getC_ok ha hT' (hyp:=[]) all_nil
 split at h
 ·simp at h
 ·rename_i s e
  have hs:=runS_ok ha hT' hgc hG.2 k.pre e (rngFS_ok' hG T)
  simp only[Bool.and_eq_true] at h
  obtain⟨⟨h1,h2⟩,h3⟩:=h
  have hb:∀ i,(nthT σ.bools (.lit false) i).den E=(inst σ E).bool i:=fun i=>rfl
  have hg:∀ r,SubOK (vOf E T) (vOf (inst σ E) (b.tbl++r)) (gTr (subId G σ T (b.tbl.map fun t=>t.subst G σ)) b.use):=by
   intro r n f hf
   exact subId_ok hG (gTr_get _ hf).symm r
  obtain⟨r',hr'⟩:=hT'
  refine⟨fun r=>?_,fun t ht j hj=>?_,fun w hw r u cl hu hcl hlt=>?_⟩
  ·exact clsK_ok hgc hs (hg r) hb (l0:=a.cls) (fun _=>by rw[hr']; exact ha.cls r') 0 0 b.cls k.cls h1 (fun e c hc=>by rw[heq e]; exact hc)
  ·have:=stpK_ok ha hgc hs (D:=fun t=>t.e.subst G σ) h2 t ht j hj
   rw[(subst_den hG t.e).1] at this
   exact this
  ·exact winK_ok (fun e=>by rw[heq e]) ha hr' (hg r) hb hs h3 hw u cl hu hcl hlt
theorem CutΦ.nevK_ok {a:CutΦ}(hG:G.Ok E) (ha:a.Holds E) {k:LC}(h:a.nevK G k=true):False:=by
 unfold CutΦ.nevK at h
 split at h
 ·simp at h
 ·rename_i c _
  simp only at h
  generalize hT:extT a G.asm k.pre _=T at h
  have hT':∃ r,T=a.tbl++r:=by
   rw[← hT]
   obtain⟨x,hx⟩:=addNew_app (l:=winT a.win) (T:=a.tbl)
   rw[hx]
   obtain⟨y,hy⟩:=extT_app (a:=a) (asm:=G.asm) (l:=k.pre) (T:=a.tbl++x)
   exact⟨x++y,by rw[hy,List.append_assoc]⟩
  have hgc:=getC_ok ha hT' (hyp:=[]) all_nil
  split at h
  ·simp at h
  ·rename_i s e
   have hs:=runS_ok ha hT' hgc hG.2 k.pre e (rngFS_ok' hG T)
   exact chk_ok hgc c none s (bad_or hs h) hs
theorem den_env (E:Env) (x:Nat→Option Nat) (y:Nat→Nat) (z:Nat→Value) (a:SI):a.den { loc:=x,cap:=y,int:=E.int,bool:=E.bool,row:=E.row,val:=z }=a.den E∧∀ j,a.cells { loc:=x,cap:=y,int:=E.int,bool:=E.bool,row:=E.row,val:=z } j=a.cells E j:=by
 induction a <;> simp_all [SI.den,SI.cells]
def envOf (i:Nat→Int) (b:Nat→Bool) (r:Nat→Int→Int):Env:={ loc:=fun _=>none,cap:=fun _=>0,int:=i,bool:=b,row:=r,val:=fun _=>.nilFunc }
theorem CutΦ.holds_env {a:CutΦ}{E:Env}:a.Holds (envOf E.int E.bool E.row)↔a.Holds E:=by
 have hd:=fun t=>(den_env E (fun _=>none) (fun _=>0) (fun _=>.nilFunc) t).1
 have hv:∀ T,vOf (envOf E.int E.bool E.row) T=vOf E T:=fun T=>by
  funext n
  unfold vOf
  split
  ·rfl
  ·exact hd _
 constructor
 ·intro h
  refine⟨fun r=>?_,fun s hs j hj=>?_,fun w hw r u cl hu hcl hlt=>?_⟩
  ·have:=h.cls r; rw[hv] at this; exact this
  ·have:=h.stps s hs j hj
   have e:s.e.den (envOf E.int E.bool E.row)=s.e.den E:=hd _
   rw[e] at this; exact this
  ·have:=h.win w hw r u cl hu hcl
   rw[hv] at this
   exact this hlt
 ·intro h
  refine⟨fun r=>?_,fun s hs j hj=>?_,fun w hw r u cl hu hcl hlt=>?_⟩
  ·have:=h.cls r; rw[← hv] at this; exact this
  ·have:=h.stps s hs j hj
   have e:s.e.den (envOf E.int E.bool E.row)=s.e.den E:=hd _
   rw[e]; exact this
  ·have:=h.win w hw r u cl hu hcl
   rw[← hv] at this
   exact this hlt
def phiC (tab:Nat→Option CutΦ):Phi:=fun k i b r=>match tab k with
 | some c=>c.Holds (envOf i b r)
 | none=>True
noncomputable def tstT (tab:Nat→Option CutΦ) (k:Nat) (G:Ctx) (j:Nat) (ints:List SI) (bools:List SB) (rows:List SI) (c:LC):Bool:=match tab j with
 | none=>true
 | some b=>match tab k with
  | none=>({}:CutΦ).tstK b false G { ints:=ints,bools:=bools,rows:=rows,ids:=.nil,next:=0 } c
  | some a=>match c.fix with
   | []=>a.tstK b (Nat.beq k j) G { ints:=ints,bools:=bools,rows:=rows,ids:=.nil,next:=0 } c
   | l=>fixB G l&&(a.fixed l).tstK b false G { ints:=ints,bools:=bools,rows:=rows,ids:=.nil,next:=0 } c
noncomputable def nevT (tab:Nat→Option CutΦ) (k:Nat) (G:Ctx) (c:LC):Bool:=match tab k with
 | some a=>match c.fix with
  | []=>a.nevK G c
  | l=>fixB G l&&(a.fixed l).nevK G c
 | none=>false
theorem fixI_ok:∀ {l:List (Nat × Int)}(i:Nat),(∀ p ∈ l,E.int p.1=p.2)→(fixI l i).den E=E.int i
 | [],i,_=>rfl
 | p::r,i,h=>by
  unfold fixI
  cases e:Nat.beq p.1 i
  ·rw[cond_false]; exact fixI_ok i fun q hq=>h q (.tail _ hq)
  ·rw[cond_true]
   have e:=Nat.eq_of_beq_eq_true e
   have:=h p (.head _)
   rw[e] at this
   exact this.symm
theorem fixS_ok {l:List (Nat × Int)}(h:∀ p ∈ l,E.int p.1=p.2):∀ a:SI,(fixS l a).den E=a.den E:=by
 intro a
 induction a with
 | var i=>exact fixI_ok i h
 | add a b iha ihb=>simp only[fixS,mkAdd_den,SI.den,iha,ihb]
 | sub a b iha ihb=>simp only[fixS,mkSub_den,SI.den,iha,ihb]
 | mul a b iha ihb=>simp only[fixS,mkMul_den,SI.den,iha,ihb]
 | quo a b iha ihb=>simp only[fixS,SI.den,iha,ihb]
 | rem a b iha ihb=>simp only[fixS,SI.den,iha,ihb]
 | sel k a i _ ihi=>simp only[fixS,SI.den,ihi]
 | cnt c a d _ ihd=>simp only[fixS,SI.den,ihd]
 | _=>rfl
theorem fixB_ok (hG:G.Ok E):∀ {l:List (Nat × Int)},fixB G l=true→∀ p ∈ l,E.int p.1=p.2
 | [],_,p,hp=>by simp at hp
 | q::r,h,p,hp=>by
  simp only[fixB,Bool.and_eq_true] at h
  rcases List.mem_cons.1 hp with rfl | hp
  ·have h1:=h.1
   split at h1
   ·rename_i t ht
    subst h1
    have:=SB.know_ok hG ht
    simpa [SB.den,SI.den] using this
   ·simp at h1
  ·exact fixB_ok hG h.2 p hp
theorem renN_ok {v:Nat→Int}:∀ {D:List (Nat × Nat)},(∀ p ∈ D,v p.1=v p.2)→∀ n,v (renN D n)=v n
 | [],_,_=>rfl
 | p::r,h,n=>by
  simp only[renN]
  cases e:Nat.beq p.1 n
  ·exact renN_ok (fun q hq=>h q (.tail _ hq)) n
  ·rw[cond_true,← Nat.eq_of_beq_eq_true e]; exact(h p (.head _)).symm
theorem renS_ok {v:Nat→Int}{D:List (Nat × Nat)}(h:∀ p ∈ D,v p.1=v p.2):∀ l,sumV v (renS D l)=sumV v l
 | []=>rfl
 | p::r=>by simp only[renS,mrg_val,sumV,renS_ok h r,renN_ok h]; omega
theorem renC_ok {v:Nat→Int}{b:Nat→Bool}{D:List (Nat × Nat)}(h:∀ p ∈ D,v p.1=v p.2) {cs:List (List Lit)}(hc:All v b cs):All v b (renC D cs):=by
 unfold renC
 split
 ·exact hc
 ·intro c hm
  obtain⟨c0,h0,rfl⟩:=List.mem_map.1 hm
  obtain⟨l,hl,hh⟩:=hc c0 h0
  refine⟨_,List.mem_map.2 ⟨l,hl,rfl⟩,?_⟩
  cases l <;> simp only[renL,Lit.holds,LF.val,renS_ok h] at hh ⊢ <;> exact hh
theorem dupsA_ok {T:List SI}:∀ {r:List SI}{j:Nat},(∀ k a,r[k]?=some a→T[j+k]?=some a)→∀ p ∈ dupsA T j r,∃ i k a,p=(2*k+1,2*i+1)∧T[k]?=some a∧T[i]?=some a
 | [],_,_,p,hp=>by simp [dupsA] at hp
 | a::r,j,h,p,hp=>by
  have ht:∀ k b,r[k]?=some b→T[j+1+k]?=some b:=fun k b e=>by
   rw[show j+1+k=j+(k+1) by omega]
   exact h (k+1) b (by simpa using e)
  simp only[dupsA] at hp
  split at hp
  ·rename_i i e
   cases eb:Nat.beq i j
   ·rw[eb,cond_false] at hp
    rcases List.mem_cons.1 hp with rfl | hp
    ·obtain⟨i',h1,h2⟩:=idxS_ok e
     exact⟨i,j,a,rfl,by simpa using h 0 a (by simp),by rw[show i=i' by omega]; exact h2⟩
    ·exact dupsA_ok ht p hp
   ·rw[eb,cond_true] at hp
    exact dupsA_ok ht p hp
  ·exact dupsA_ok ht p hp
theorem fixed_ok {l:List (Nat × Int)}(h:∀ p ∈ l,E.int p.1=p.2) {a:CutΦ}(ha:a.Holds E):(a.fixed l).Holds E:=by
 have hv:∀ r,vOf E ((a.fixed l).tbl++r)=vOf E (a.tbl++r):=fun r=>by
  funext n
  unfold vOf
  split
  ·rfl
  ·show SI.den E ((a.tbl.map (fixS l)++r).getD (n / 2) (.lit 0))=_
   by_cases hn:n / 2<a.tbl.length
   ·rw[List.getD_eq_getElem?_getD,List.getD_eq_getElem?_getD,List.getElem?_append_left (by simpa using hn),List.getElem?_append_left hn,List.getElem?_map]
    cases a.tbl[n / 2]? with
    | none=>rfl
    | some t=>exact fixS_ok h t
   ·rw[List.getD_eq_getElem?_getD,List.getD_eq_getElem?_getD,List.getElem?_append_right (by simpa using hn),List.getElem?_append_right (by omega),List.length_map]
 refine⟨fun r=>?_,ha.stps,fun w hw r u cl hu hcl hlt=>?_⟩
 ·have hc:=ha.cls r
  rw[← hv r] at hc
  have hD:∀ p ∈ dupsA (a.tbl.map (fixS l)) 0 (a.tbl.map (fixS l)),vOf E ((a.fixed l).tbl++r) p.1=vOf E ((a.fixed l).tbl++r) p.2:=?_
  ·intro c hm
   rcases List.mem_append.1 hm with hm | hm
   ·exact renC_ok hD hc c hm
   ·obtain⟨p,hp,rfl⟩:=List.mem_map.1 hm
    refine⟨_,.head _,?_⟩
    have:=hD p hp
    simp only[Lit.holds,LF.val,sumV]
    omega
  intro p hp
  obtain⟨i,k,t,rfl,h1,h2⟩:=dupsA_ok (T:=a.tbl.map (fixS l)) (fun k a h=>by rw[Nat.zero_add]; exact h) p hp
  have hx:∀ {m:Nat},(a.tbl.map (fixS l))[m]?=some t→vOf E ((a.fixed l).tbl++r) (2*m+1)=t.den E:=fun {m} hm=>by
   refine vOf_odd (by omega) ?_
   rw[show (2*m+1) / 2=m by omega]
   have hl:=(List.getElem?_eq_some_iff.1 hm).1
   show (a.tbl.map (fixS l)++r)[m]?=some t
   rw[List.getElem?_append_left hl]
   exact hm
  rw[hx h1,hx h2]
 ·rw[hv r] at hlt ⊢; exact ha.win w hw r u cl hu hcl hlt
theorem tstT_ok {tab:Nat→Option CutΦ}{k:Nat}{j:Nat}{i:List SI}{bs:List SB}{r:List SI}{c:LC}(h:tstT tab k G j i bs r c=true) (hG:G.Ok E) (hk:phiC tab k E.int E.bool E.row) :
  phiC tab j (inst { ints:=i,bools:=bs,rows:=r,ids:=.nil,next:=0 } E).int (inst { ints:=i,bools:=bs,rows:=r,ids:=.nil,next:=0 } E).bool (inst { ints:=i,bools:=bs,rows:=r,ids:=.nil,next:=0 } E).row:=by
 unfold tstT at h
 unfold phiC at hk ⊢
 cases hj:tab j with
 | none=>trivial
 | some y =>
  rw[hj] at h
  simp only at h ⊢
  refine CutΦ.holds_env.2 ?_
  cases hx:tab k with
  | none =>
   rw[hx] at h
   exact CutΦ.tstK_ok (a:={}) (by simp) hG ⟨fun r c hc=>by simp at hc,fun s hs=>by simp at hs,fun w hw=>by simp at hw⟩ h
  | some x =>
   rw[hx] at h hk
   simp only at h
   split at h
   ·refine CutΦ.tstK_ok (fun e=>?_) hG (CutΦ.holds_env.1 hk) h
    have:=Nat.eq_of_beq_eq_true e
    rw[this,hj] at hx
    exact(Option.some.inj hx).symm
   ·rename_i l _
    rw[Bool.and_eq_true] at h
    exact CutΦ.tstK_ok (by simp) hG (fixed_ok (fixB_ok hG h.1) (CutΦ.holds_env.1 hk)) h.2
theorem nevT_ok {tab:Nat→Option CutΦ}{k:Nat}{c:LC}(h:nevT tab k G c=true) (hG:G.Ok E) (hk:phiC tab k E.int E.bool E.row):False:=by
 unfold nevT at h
 unfold phiC at hk
 cases hx:tab k with
 | none=>rw[hx] at h; simp at h
 | some x =>
  rw[hx] at h hk
  simp only at h
  split at h
  ·exact CutΦ.nevK_ok hG (CutΦ.holds_env.1 hk) h
  ·rename_i l _
   rw[Bool.and_eq_true] at h
   exact CutΦ.nevK_ok hG (fixed_ok (fixB_ok hG h.1) (CutΦ.holds_env.1 hk)) h.2
noncomputable section
def moreK (tab:Nat→Option CutΦ) (k:Nat) (rng:List (Option (Int × Int))):List (SB × Bool)→List Mo→Option (List (SB × Bool))
 | asm,[]=>some asm
 | asm,m::r=>bif nevT tab k { rng,asm:=(m.b,!m.t)::asm } { pre:=m.pre,off:=some m.k } then moreK tab k rng ((m.b,m.t)::asm) r else none
def leafK (tab:Nat→Option CutΦ) (l:List ACut) (k:Nat) (m:Meas) (rng:List (Option (Int × Int))) (x:List (SB × Bool) × Leaf) (c:LC):Bool:=match c.off with
 | some _=>(match x.2 with
  | .fin b=>nevT tab k { rng,asm:=(b,false)::x.1 } c
  | _=>nevT tab k { rng,asm:=x.1 } c)
 | none=>match moreK tab k rng x.1 c.more with
  | some asm=>leafB l m { rng,asm } x.2&&(match x.2 with
   | .cut j i b r=>tstT tab k { rng,asm } j i b r c
   | _=>true)
  | none=>false
def allLeafK (tab:Nat→Option CutΦ) (l:List ACut) (k:Nat) (m:Meas) (rng:List (Option (Int × Int))):List (List (SB × Bool) × Leaf)→List LC→Bool
 | [],_=>true
 | x::r,c::cs=>leafK tab l k m rng x c&&allLeafK tab l k m rng r cs
 | _::_,[]=>false
end
theorem moreK_ok {tab:Nat→Option CutΦ}{k:Nat}{rng:List (Option (Int × Int))}:∀ {ms:List Mo}{asm asm':List (SB × Bool)},moreK tab k rng asm ms=some asm'→({ rng,asm }:Ctx).Ok E→phiC tab k E.int E.bool E.row→({ rng,asm:=asm' }:Ctx).Ok E
 | [],asm,asm',h,hG,_=>by simp only[moreK,Option.some.injEq] at h; rw[← h]; exact hG
 | m::r,asm,asm',h,hG,hk=>by
  simp only[moreK] at h
  cases hn:nevT tab k { rng,asm:=(m.b,!m.t)::asm } { pre:=m.pre,off:=some m.k } with
  | false=>rw[hn] at h; simp at h
  | true =>
   rw[hn] at h
   simp only[cond_true] at h
   have hb:m.b.den E=m.t:=by
    cases hd:m.b.den E with
    | true =>
     cases ht:m.t with
     | true=>rfl
     | false=>exact(nevT_ok (by rw[ht] at hn; exact hn) (hG.cons (b:=m.b) (t:=!false) (by simpa using hd)) hk).elim
    | false =>
     cases ht:m.t with
     | false=>rfl
     | true=>exact(nevT_ok (by rw[ht] at hn; exact hn) (hG.cons (b:=m.b) (t:=!true) (by simpa using hd)) hk).elim
   exact moreK_ok h (hG.cons hb) hk
theorem leafK_ok {tab:Nat→Option CutΦ}{l:List ACut}{k:Nat}{m:Meas}{g:Ctx}{x:List (SB × Bool) × Leaf}{c:LC}(h:leafK tab l k m g.rng x c=true):LeafGood l (phiC tab) k m g x:=by
 obtain⟨a,x⟩:=x
 unfold leafK at h
 split at h
 ·cases x with
  | fin b =>
   intro E hG hk
   show b.den E=true
   cases hb:b.den E with
   | true=>rfl
   | false=>exact(nevT_ok h (hG.cons hb) hk).elim
  | _=>exact .never fun E hG hk=>nevT_ok h hG hk
 ·split at h
  ·rename_i asm hm
   simp only[Bool.and_eq_true] at h
   have:=LeafGood.auto (φ:=phiC tab) (k:=k) (g:=g) (x:=(asm,x)) h.1 fun j i b r e E hG hk=>by
    simp only at e
    subst e
    exact tstT_ok h.2 hG hk
   exact fun E hG hk=>this E (moreK_ok hm hG hk) hk
  ·simp at h
theorem allLeafK_ok {tab:Nat→Option CutΦ}{l:List ACut}{k:Nat}{m:Meas}{g:Ctx}:∀ {d:List (List (SB × Bool) × Leaf)}{cs:List LC},allLeafK tab l k m g.rng d cs=true→LeavesGood l (phiC tab) k m g d
 | [],_,_=>trivial
 | x::r,[],h=>by simp [allLeafK] at h
 | x::r,c::cs,h=>by
  simp only[allLeafK,Bool.and_eq_true] at h
  exact⟨leafK_ok h.1,allLeafK_ok h.2⟩
theorem allLeafK_cut {tab:Nat→Option CutΦ}{l:List ACut}{k:Nat}{m:Meas}{rng:List (Option (Int × Int))}:∀ (n:Nat) {d:List (List (SB × Bool) × Leaf)}{cs:List LC},allLeafK tab l k m rng (d.take n) (cs.take n)=true→allLeafK tab l k m rng (d.drop n) (cs.drop n)=true→allLeafK tab l k m rng d cs=true
 | 0,d,cs,_,h=>h
 | n+1,[],cs,_,_=>by unfold allLeafK; rfl
 | n+1,x::r,[],h,_=>by simp [allLeafK] at h
 | n+1,x::r,c::cs,h,h2=>by
  simp only[List.take_succ_cons,List.drop_succ_cons,allLeafK,Bool.and_eq_true] at h h2 ⊢
  exact⟨h.1,allLeafK_cut n h.2 h2⟩
theorem inB_cut {b:Nat}:∀ (n:Nat) {d:List (List (SB × Bool) × Leaf)},inB b (d.take n)=true→inB b (d.drop n)=true→inB b d=true
 | 0,_,_,h=>h
 | _+1,[],_,_=>rfl
 | n+1,(a,y)::r,h1,h2=>by
  simp only[List.take_succ_cons,List.drop_succ_cons] at h1 h2
  cases y with
  | cut j i bs rs =>
   simp only[inB,Bool.and_eq_true] at h1 ⊢
   exact⟨h1.1,inB_cut n h1.2 h2⟩
  | _=>exact inB_cut n (d:=r) h1 h2
theorem cutK {tab:Nat→Option CutΦ}{l:List ACut}{k:Nat}{m:Meas}{rng:List (Option (Int × Int))}(n:Nat) {d:List (List (SB × Bool) × Leaf)}{cs:List LC}(h:(inB l.length (d.take n)&&allLeafK tab l k m rng (d.take n) (cs.take n))=true) (i:(inB l.length (d.drop n)&&allLeafK tab l k m rng (d.drop n) (cs.drop n))=true) :
  (inB l.length d&&allLeafK tab l k m rng d cs)=true:=by
 rw[Bool.and_eq_true] at h i ⊢
 exact⟨inB_cut n h.1 i.1,allLeafK_cut n h.2 i.2⟩
theorem partK {P:Program}{tab:Nat→Option CutΦ}{l:List ACut}{k:Nat}{m:Meas}{go:Bool}{g:Ctx}{cf:Cfg}(n:Nat) (d:List (List (SB × Bool) × Leaf)) (cs:List LC)
  (h1:fullE (l.map ACut.u) (ends P (l.map ACut.u) n go g cf)=fullD (l.map ACut.u) d) (h3:inB l.length d=true) (h2:allLeafK tab l k m g.rng d cs=true):PartΦ P l (phiC tab) k m go g cf :=
 ⟨n,d,h1,h3,allLeafK_ok h2⟩
end Go.Ev.Cl
