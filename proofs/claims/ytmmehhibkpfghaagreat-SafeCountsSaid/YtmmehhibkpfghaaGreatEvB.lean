/- Ev, part B: what one operation does. Definitions alone. -/
import Derived.Test.YtmmehhibkpfghaaGreatEvA
set_option linter.unusedVariables false
namespace Go.Ev
noncomputable section
inductive AOut where
 | val (v:AV)
 | eff (v:AV) (H:AHeap)
 | enter (f:FuncId) (args:List AV)
 | round (l:Nat) (args:List AV)
 | fork (b:SB)
 | fail (why:String)
 | defer (d:ADef)
def asLit:SI→Option Nat
 | .lit (.ofNat n)=>some n
 | _=>none
def withB (G:Ctx) (b:SB) (yes no:AOut):AOut :=
 match b.know G with
 | some true=>yes
 | some false=>no
 | none=>.fork (b.atom G)
def zeroLen:AV→Bool
 | .nilSlice=>true
 | .empty _=>true
 | .ite _ x y=>zeroLen x&&zeroLen y
 | _=>false
def lenIte:AV→Option SI
 | .ite (.lss (.lit (.ofNat 0)) m) (.slice _ _ n _) y=>if m=n∧zeroLen y=true then some n else none
 | _=>none
def lazyP:AV→Bool
 | .ite s x y=>(match s with
  | .eql (.var _) (.lit _)=>true
  | _=>false)&&lazyP x&&lazyP y
 | .ptr _ _=>true
 | .nilPtr=>true
 | _=>false
def valA (G:Ctx):AV→AOut
 | .ite s x y=>match lenIte (.ite s x y) with
  | some _=>.val (.ite s x y)
  | none=>bif lazyP (.ite s x y) then (match s.know G with
   | some true=>valA G x
   | some false=>valA G y
   | none=>.val (.ite s x y)) else withB G s (valA G x) (valA G y)
 | v=>.val v
def nthA (l:List AV) (i:Nat):Option AV:=@List.rec AV (fun _=>Nat→Option AV) (fun _=>none) (fun x _ ih i=>@Nat.rec (fun _=>Option AV) (some x) (fun j _=>ih j) i) l i
theorem nthA_eq:∀ (l:List AV) (i:Nat),nthA l i=l[i]?
 | [],i=>by simp; rfl
 | x::l,0=>rfl
 | x::l,i+1=>by
  show nthA l i=_
  simpa using nthA_eq l i
def AB.cell (b:AB) (i:Nat):Option AV :=
 match b with
 | .cells cs _=>nthA cs i
 | .opn cs _ _=>nthA cs i
 | .rep n z ov _=>if i<n then some ((ov.get i).getD z) else none
 | _=>none
def AB.setCell (b:AB) (i:Nat) (v:AV):Option AB :=
 match b with
 | .cells cs e=>if i<cs.length then some (.cells (cs.set i v) e) else none
 | .opn cs e n=>if i<cs.length then some (.opn (cs.set i v) e n) else none
 | .rep n z ov e=>if i<n then some (.rep n z (ov.set i v) e) else none
 | _=>none
def AV.one:AV→Bool
 | .agg _=>false
 | .tuple _=>false
 | .raw _=>false
 | .any=>false
 | .ite _ x y=>x.one&&y.one
 | _=>true
def loadN (H:AHeap) (b:AB) (off:Nat):Nat→Option (List AV)
 | 0=>some []
 | n+1=>match b.cell off with
  | some v=>match loadN H b (off+1) n with
   | some r=>some (v::r)
   | none=>none
  | none=>none
def storeN (b:AB) (off:Nat):List AV→Option AB
 | []=>some b
 | v::r=>if v.one then match b.setCell off v with
  | some b'=>storeN b' (off+1) r
  | none=>none
  else none
def AV.isRaw:AV→Bool
 | .raw _=>true
 | .any=>true
 | .ite _ x y=>!(x.one&&y.one)
 | _=>false
def AV.cells:AV→List AV
 | .agg cs=>cs
 | v=>[v]
def isAggB (P:Program) (t:TypeId):Option Bool :=
 match P.underlying t with
 | some (.struct _)=>some true
 | some (.array _ _)=>some true
 | some _=>some false
 | none=>none
def sizeB (P:Program) (t:TypeId):Option Nat:=(P.info? t).map (·.size)
def zeroB (P:Program) (t:TypeId):Option AV:=((P.info? t).bind (·.zero)).bind ofConst
def loadAt (P:Program) (H:AHeap) (t:TypeId) (id off:Nat):Option AV :=
 match isAggB P t,H.get id with
 | some true,some b=>match sizeB P t with
  | some n=>(loadN H b off n).map .agg
  | none=>none
 | some false,some b=>b.cell off
 | _,_=>none
def storeAt (P:Program) (H:AHeap) (t:TypeId) (id off:Nat) (v:AV):Option AHeap :=
 match H.get id,sizeB P t with
 | some b,some n=>if v.cells.length=n∧b.rw=true then (storeN b off v.cells).map (H.upd id) else none
 | _,_=>none
def splitOff (p:Nat) (off:SI):Option (SI × Nat) :=
 if p=1 then some (off,0) else
 match off with
 | .lit (.ofNat m)=>if p=0 then none else some (.lit (m / p:Nat),m % p)
 | .mul i (.lit (.ofNat q))=>if p≠0∧q % p=0 then some (mkMul i (.lit (q / p:Nat)),0) else none
 | .add (.mul i (.lit (.ofNat q))) (.lit (.ofNat c))=>if p≠0∧q % p=0 then some (mkAdd (mkMul i (.lit (q / p:Nat))) (.lit (c / p:Nat)),c % p) else none
 | _=>none
def cellRow (G:Ctx) (a n:SI) (pat:List CK) (off:SI):AV ⊕ AOut :=
 match splitOff pat.length off with
 | some (i,c)=>match pat[c]? with
  | some ck=>match (mkLss G i (.lit 0)).know G with
   | some false=>match (mkLss G i n).know G with
    | some true=>match ck with
     | .int k=>match mkSel G k a off with
      | .inl v=>.inl (.int k v)
      | .inr s=>.inr (.fork s)
     | .bool=>match mkSel G .i64 a off with
      | .inl v=>.inl (.bool (mkEql G v (.lit 1)))
      | .inr s=>.inr (.fork s)
    | some false => .inr (.fail "a row: beyond")
    | none=>.inr (.fork ((mkLss G i n).atom G))
   | some true => .inr (.fail "a row: below 0")
   | none=>.inr (.fork ((mkLss G i (.lit 0)).atom G))
  | none => .inr (.fail "a row: no such cell")
 | none => .inr (.fail "a row: which element?")
def cellsRow (G:Ctx) (a n:SI) (pat:List CK) (off:SI):Nat→List AV ⊕ AOut
 | 0=>.inl []
 | m+1=>match cellRow G a n pat off with
  | .inl v=>match cellsRow G a n pat (mkAdd off (.lit 1)) m with
   | .inl r=>.inl (v::r)
   | .inr o=>.inr o
  | .inr o=>.inr o
def loadRow (P:Program) (G:Ctx) (t:TypeId) (a n:SI) (pat:List CK) (off:SI):AOut :=
 match isAggB P t,sizeB P t with
 | some false,_=>match cellRow G a n pat off with
  | .inl v=>.val v
  | .inr o=>o
 | some true,some m=>match cellsRow G a n pat off m with
  | .inl l=>.val (.agg l)
  | .inr o=>o
 | _, _ => .fail "load"
def loadRowM (P:Program) (G:Ctx) (t:TypeId) (md:Md) (a n:SI) (pat:List CK) (off:SI):AOut :=
 match md.offOf off with
 | some off'=>loadRow P G t a n pat off'
 | none => .fail "a row: from where?"
def offRos (o off:SI):Option SI:=match o,off with
 | .lit n,.lit m=>some (.lit (m-n))
 | .lit n,x=>if n=0 then some x else none
 | o,off=>stripS o off
def offRosG (G:Ctx) (o off:SI):Option SI:=match offRos o off with
 | some z=>some z
 | none=>match o.rangeT G,off.rangeT G with
  | some x,some y=>if x.1=x.2∧y.1=y.2 then some (.lit (y.1-x.1)) else none
  | _,_=>none
def loadRos (P:Program) (G:Ctx) (t:TypeId) (o n:SI) (cs:List AV) (off:SI):AOut :=
 match isAggB P t,offRosG G o off with
 | some false,some (.lit (.ofNat i))=>(match cs[i]? with
  | some v=>(match (mkLss G (.lit (i:Nat)) n).know G with
   | some true=>valA G v
   | some false => .fail "beyond"
   | none=>.fork ((mkLss G (.lit (i:Nat)) n).atom G))
  | none => .fail "one of those behind")
 | _, _ => .fail "a row of slices"
def rowVal (G:Ctx) (ck:CK) (v:AV):SI ⊕ AOut :=
 match ck,v with
 | .int k,.int k' n=>match n.range G with
  | some r => if k = k' ∧ inRange r k then .inl n else .inr (.fail "a row: another kind")
  | none => .inr (.fail "a row: a number of no range")
 | .bool,.bool s=>match s.know G with
  | some t=>.inl (.lit (if t then 1 else 0))
  | none=>.inr (.fork (s.atom G))
 | _, _ => .inr (.fail "a row: another kind")
def strikeR (i:SI):SI→SI
 | .upd a j v=>if j=i then strikeR i a else .upd (strikeR i a) j v
 | a=>a
def setRow (G:Ctx) (a n:SI) (pat:List CK) (off:SI) (v:AV):SI ⊕ AOut :=
 match splitOff pat.length off with
 | some (i,c)=>match pat[c]? with
  | some ck=>match (mkLss G i (.lit 0)).know G with
   | some false=>match (mkLss G i n).know G with
    | some true=>match rowVal G ck v with
     | .inl x=>.inl (.upd (strikeR off a) off x)
     | .inr o=>.inr o
    | some false => .inr (.fail "a row: beyond")
    | none=>.inr (.fork ((mkLss G i n).atom G))
   | some true => .inr (.fail "a row: below 0")
   | none=>.inr (.fork ((mkLss G i (.lit 0)).atom G))
  | none => .inr (.fail "a row: no such cell")
 | none => .inr (.fail "a row: which element?")
def setsRow (G:Ctx) (a n:SI) (pat:List CK) (off:SI):List AV→SI ⊕ AOut
 | []=>.inl a
 | v::r=>match setRow G a n pat off v with
  | .inl a'=>setsRow G a' n pat (mkAdd off (.lit 1)) r
  | .inr o=>.inr o
def storeRow (P:Program) (G:Ctx) (H:AHeap) (t:TypeId) (id:Nat) (md:Md) (a n:SI) (pat:List CK) (elem:TypeId) (off:SI) (v:AV):AOut :=
 match sizeB P t with
 | some m=>if v.isRaw=false∧v.cells.length=m∧md.isRo=false then
   match setsRow G a n pat off v.cells with
   | .inl a'=>.eff undefA (H.upd id (.row md a' n pat elem))
   | .inr o=>o
  else .fail "store"
 | none => .fail "store"
def patOf:List AV→Option (List CK)
 | []=>some []
 | .int k (.lit 0)::r=>(patOf r).map (.int k::·)
 | .bool (.lit false)::r=>(patOf r).map (.bool::·)
 | _=>none
def allocA (H:AHeap) (cs:List AV) (elem:TypeId):AOut:=.eff (.ptr H.next (.lit 0)) (H.new (.cells cs elem))
def setMany (cells:List AV) (off:Nat):List AV→List AV
 | []=>cells
 | v::r=>setMany (cells.set off v) (off+1) r
def fillA (place:Nat→Option (Nat × Nat)) (cells:List AV):List (Nat × AV)→Option (List AV)
 | []=>some cells
 | (i,v)::rest =>
  match place i with
  | none=>none
  | some (off,size)=>if v.isRaw=false∧v.cells.length=size∧off+size≤cells.length then fillA place (setMany cells off v.cells) rest else none
def placesA (P:Program) (fs:Array Field):Option (List (Nat × Nat)):=fs.toList.mapM (fun f=>(P.info? f.type).map fun i=>(f.offset,i.size))
def repeatL (z:List AV):Nat→List AV
 | 0=>[]
 | n+1=>z++repeatL z n
def buildSliceA (P:Program) (H:AHeap) (t:TypeId) (len:Nat) (parts:List (Nat × AV)):AOut :=
 match P.underlying t with
 | some (.slice e)=>match sizeB P e,zeroB P e with
  | some (n+1),some z=>if len*(n+1)≤65536∧z.cells.length=n+1 then
    match fillA (fun i=>some (i*(n+1),n+1)) (repeatL z.cells len) parts with
    | some cs=>.eff (.slice H.next (.lit 0) (.lit len) (.lit len)) (H.new (.cells cs e))
    | none => .fail "buildSlice"
    else .fail "buildSlice"
  | _, _ => .fail "buildSlice"
 | _ => .fail "buildSlice"
def litK (G:Ctx) (b:SI):SI:=match b with
 | .lit n=>.lit n
 | b=>match b.rangeT G with
  | some q=>if q.1=q.2 then .lit q.1 else b
  | none=>b
def arith (G:Ctx) (o:BinOp) (k:IntKind) (a b:SI):AOut :=
 match o with
 | .add=>.val (.int k (wrapK G k (mkAdd a b)))
 | .sub=>.val (.int k (wrapK G k (mkSub a b)))
 | .mul=>.val (.int k (wrapK G k (mkMul (litK G a) (litK G b))))
 | .quo => withB G (mkEql G b (.lit 0)) (.fail "div by zero") (.val (.int k (match a, b with | .lit x, .lit y => .lit (k.wrap (x.tdiv y)) | _, _ => mkWrap G k (.quo a b))))
 | .rem => withB G (mkEql G b (.lit 0)) (.fail "div by zero") (.val (.int k (match litK G a, litK G b with | .lit x, .lit y => .lit (x.tmod y) | _, b' => .rem a b')))
 | .and | .or | .xor | .andNot=>.val (.int k (bitsG G o k a b))
 | .eql=>.val (.bool (mkEql G a b))
 | .neq=>.val (.bool (mkNot (mkEql G a b)))
 | .lss=>.val (.bool (mkLss G a b))
 | .gtr=>.val (.bool (mkLss G b a))
 | .leq=>.val (.bool (mkNot (mkLss G b a)))
 | .geq=>.val (.bool (mkNot (mkLss G a b)))
 | _ => .fail "arith"
def pin (G:Ctx) (n:SI):Nat→Int→Option (Int ⊕ SB)
 | 0,_=>none
 | f+1,c=>match (mkEql G n (.lit c)).know G with
  | some true=>some (.inl c)
  | some false=>pin G n f (c+1)
  | none=>some (.inr ((mkEql G n (.lit c)).atom G))
def pinned (G:Ctx) (n:SI) (k:SI→AOut):AOut :=
 match n with
 | .lit c=>k (.lit c)
 | n=>match n.rangeT G with
  | some (lo,hi)=>if hi-lo≤300 then match pin G n 301 lo with
   | some (.inl c)=>k (.lit c)
   | some (.inr s)=>.fork s
   | none => .fail "pin"
   else .fail "pin: a wide range"
  | none => .fail "pin: no range"
def shiftA (G:Ctx) (o:BinOp) (k:IntKind) (a b:SI):AOut :=
 match b with
 | .lit (.ofNat y) =>
  let n:=min y k.bits
  match o with
  | .shl=>.val (.int k (match a with | .lit x=>.lit (k.wrap (x*2 ^ n)) | _=>shlG G k a n))
  | .shr=>.val (.int k (match a with | .lit x=>.lit (x.fdiv (2 ^ n)) | _=>shrG G a n))
  | _ => .fail "shift"
 | _ => .fail "shift by an open number"
def AB.isCells:AB→Bool
 | .cells ..=>true
 | .rep ..=>true
 | .opn ..=>true
 | _=>false
def eqlA (P:Program) (G:Ctx) (H:AHeap) (t:TypeId) (constSide:Bool) (x y:AV):Option SB :=
 match P.underlying t,x,y with
 | some .bool,.bool a,.bool b=>some (mkIff a b)
 | some (.pointer _),.nilPtr,.nilPtr=>some (.lit true)
 | some (.pointer _),.nilPtr,.ptr _ _=>some (.lit false)
 | some (.pointer _),.ptr _ _,.nilPtr=>some (.lit false)
 | some (.pointer e),.ptr i a,.ptr j b =>
  match sizeB P e with
  | some (_+1) =>
   if i=j then (match a,b with
    | .lit (.ofNat m),.lit (.ofNat n)=>some (.lit (m == n))
    | _,_=>none)
   else (match H.get i,H.get j with
    | some p,some q=>if p.isCells&&q.isCells then some (.lit false) else none
    | _,_=>none)
  | _=>none
 | some (.interface _),.nilIface,.nilIface=>if constSide then some (.lit true) else none
 | some (.interface _),.nilIface,.iface _ _=>some (.lit false)
 | some (.interface _),.iface _ _,.nilIface=>some (.lit false)
 | some (.func _ _ _),.nilFunc,.nilFunc=>some (.lit true)
 | some (.func _ _ _),.nilFunc,.func _ _ _=>some (.lit false)
 | some (.func _ _ _),.func _ _ _,.nilFunc=>some (.lit false)
 | some (.func _ _ _),.yieldF _,.nilFunc=>some (.lit false)
 | some (.slice _),.nilSlice,.nilSlice=>some (.lit true)
 | some (.slice _),.nilSlice,.slice ..=>some (.lit false)
 | some (.slice _),.slice ..,.nilSlice=>some (.lit false)
 | some (.slice _),.slack ..,.nilSlice=>some (.lit false)
 | some (.slice _),.oslice ..,.nilSlice=>some (.lit false)
 | some (.slice _),.empty _,.nilSlice=>some (.lit false)
 | _,_,_=>none
def exclB:SB→SB→Bool
 | .eql a (.lit i),.eql b (.lit j)=>decide (a=b)&&decide (i≠j)
 | _,_=>false
def combB (s p q:SB):Option SB:=if p=q then some p else match p with
 | .lit false=>(match q with
  | .lit true=>some (mkNot s)
  | q=>if exclB s q then some q else none)
 | .lit true=>(match q with
  | .lit false=>some s
  | .not r=>if exclB s r then some (.not r) else none
  | _=>none)
 | _=>none
def eqlI (P:Program) (H:AHeap) (t:TypeId) (constSide:Bool):Ctx→AV→AV→Option SB
 | G,.ite s x y,v=>match s.know G with
  | some true=>eqlI P H t constSide G x v
  | some false=>eqlI P H t constSide G y v
  | none=>match eqlI P H t constSide { G with asm:=(s,true)::G.asm } x v with
   | some p=>(match eqlI P H t constSide { G with asm:=(s,false)::G.asm } y v with
    | some q=>combB s p q
    | none=>none)
   | none=>none
 | G,u,v=>eqlA P G H t constSide u v
def partV (P:Program) (t:TypeId) (cs:List AV) (off:Nat):Option AV :=
 match isAggB P t with
 | some true=>match sizeB P t with
  | some n=>some (.agg ((cs.drop off).take n))
  | none=>none
 | some false=>cs[off]?
 | none=>none
def eqFieldsA (P:Program) (eq:TypeId→AV→AV→Bool ⊕ AOut) (xs ys:List AV):List Field→Bool ⊕ AOut
 | []=>.inl true
 | f :: fs => if f.name ≠ "_" then
   (match partV P f.type xs f.offset,partV P f.type ys f.offset with
   | some a,some b=>match eq f.type a b with
    | .inl true=>eqFieldsA P eq xs ys fs
    | .inl false=>.inl false
    | .inr o=>.inr o
   | _, _ => .inr (.fail "=="))
  else eqFieldsA P eq xs ys fs
def eqDeepA (P:Program) (G:Ctx):Nat→TypeId→AV→AV→Bool ⊕ AOut
 | 0, _, _, _ => .inr (.fail "==")
 | d+1,t,x,y=>match P.underlying t,x,y with
  | some (.int _),.int k a,.int k' b=>if k=k' then (match (mkEql G a b).know G with
   | some r=>.inl r
   | none => .inr (.fork ((mkEql G a b).atom G))) else .inr (.fail "==")
  | some .bool,.bool a,.bool b=>match (mkIff a b).know G with
   | some r=>.inl r
   | none=>.inr (.fork ((mkIff a b).atom G))
  | some (.struct fs), .agg xs, .agg ys => if P.stoodInHeld t then .inr (.fail "==") else eqFieldsA P (eqDeepA P G d) xs ys fs.toList
  | _, _, _ => .inr (.fail "==")
def aggEqA (P:Program) (G:Ctx) (t:TypeId) (x y:AV) (neg:Bool):AOut :=
 if P.eqGuardType P.depth t then .fail "==" else match eqDeepA P G 8 t x y with
 | .inl b=>.val (.bool (.lit (b != neg)))
 | .inr o=>o
def indexAt (P:Program) (G:Ctx) (t:TypeId) (x:AV) (i:SI):AOut :=
 let go (id:Nat) (off len:SI) (elem:TypeId):AOut :=
  match sizeB P elem with
  | some n => withB G (mkLss G i (.lit 0)) (.fail "index below 0") (withB G (mkLss G i len)
    (.val (.ptr id (mkAdd off (mkMul i (.lit n))))) (.fail "index beyond"))
  | none => .fail "indexAddr"
 match P.underlying t,x with
 | some (.slice e),.slice id off len _=>go id off len e
 | some (.slice e),.slack id skip size len=>go id (.lit (skip*size:Nat)) (.lit len) e
 | some (.slice e),.oslice id _ len=>go id (.lit 0) len e
 | some (.array n e),.ptr id off=>go id off (.lit n) e
 | _, _ => .fail "indexAddr"
def nearRos (H:AHeap) (x:AV) (i:SI):Bool:=match x with
 | .oslice id _ _=>(match H.get id with
  | some (.ros o _ _ _)=>(match offRos o i with | some (.lit (.ofNat _))=>true | _=>false)
  | _=>false)
 | _=>false
def leadsToRow (H:AHeap) (x:AV):Bool :=
 match (match x with
  | .slice id _ _ _=>H.get id
  | .oslice id _ _=>H.get id
  | .ptr id _=>H.get id
  | _=>none) with
 | some (.row ..)=>true
 | _=>false
def indexAddrA (P:Program) (G:Ctx) (H:AHeap) (t:TypeId) (x:AV) (i:SI):AOut :=
 match i with
 | .lit n=>indexAt P G t x (.lit n)
 | i=>if (leadsToRow H x||nearRos H x i)=true then indexAt P G t x i else match x with
  | .ite _ _ _ => .fail "one or the other"
  | x=>pinned G i (indexAt P G t x)
def sliceA (P:Program) (G:Ctx) (t:TypeId) (x:AV) (lo hi mx:Option SI):AOut :=
 match P.underlying t with
 | some (.slice e)=>match sizeB P e with
  | some size =>
   match x,mx with
   | .slice id off len cap,none =>
    let h:=hi.getD len
    let l:=lo.getD (.lit 0)
    withB G (mkLss G l (.lit 0)) (.fail "slice") (withB G (mkLss G h l) (.fail "slice") (withB G (mkLss G cap h) (.fail "slice")
     (withB G (mkEql G cap l) (.val (.slice id off (mkSub h l) (mkSub cap l)))
      (.val (.slice id (mkAdd off (mkMul l (.lit size))) (mkSub h l) (mkSub cap l))))))
   | .slice id off len cap,some m =>
    match hi with
    | some h =>
     let l:=lo.getD (.lit 0)
     withB G (mkLss G l (.lit 0)) (.fail "slice") (withB G (mkLss G h l) (.fail "slice") (withB G (mkLss G m h) (.fail "slice") (withB G (mkLss G cap m) (.fail "slice")
      (withB G (mkEql G m l) (.val (.slice id off (mkSub h l) (mkSub m l)))
       (.val (.slice id (mkAdd off (mkMul l (.lit size))) (mkSub h l) (mkSub m l)))))))
    | none => .fail "slice"
   | .slack id skip size' len,some (.lit (.ofNat m)) =>
    match lo.getD (.lit 0),hi with
    | .lit (.ofNat l),some (.lit (.ofNat h)) =>
     if size'=size∧l≤h∧h≤m∧m≤len then
      .val (.slice id (if m=l then .lit (skip*size:Nat) else .lit ((skip+l)*size:Nat)) (.lit (h-l:Nat)) (.lit (m-l:Nat)))
     else .fail "slice"
    | _, _ => .fail "slice"
   | .slack id skip size' len,none =>
    match lo.getD (.lit 0),hi.getD (.lit len) with
    | .lit (.ofNat l),.lit (.ofNat h) =>
     if size'=size∧l≤h∧h≤len then (if l<len then .val (.slack id (skip+l) size (h-l)) else .val (.empty false))
     else .fail "slice"
    | _, _ => .fail "slice"
   | .oslice id size' len,none=>match lo.getD (.lit 0),hi with
    | .lit 0, some h => if size' = size then withB G (mkLss G h (.lit 0)) (.fail "slice") (withB G (mkLss G len h) (.fail "slice") (.val (.oslice id size' h))) else .fail "slice"
    | .lit 0, none => if size' = size then .val (.oslice id size' len) else .fail "slice"
    | _, _ => .fail "slice"
   | .oslice id size' len,some m=>match lo.getD (.lit 0),hi with
    | .lit 0, some h => if size' = size then withB G (mkLss G h (.lit 0)) (.fail "slice") (withB G (mkLss G m h) (.fail "slice") (withB G (mkLss G len m) (.fail "slice") (.val (.slice id (.lit 0) h m)))) else .fail "slice"
    | _, _ => .fail "slice"
   | .empty full,some (.lit 0)=>match lo.getD (.lit 0),hi with
    | .lit 0,some (.lit 0)=>.val (.empty true)
    | _, _ => .fail "slice of an empty one"
   | .empty full,none=>match lo.getD (.lit 0),hi.getD (.lit 0) with
    | .lit 0,.lit 0=>.val (.empty full)
    | _, _ => .fail "slice of an empty one"
   | .nilSlice,none=>match lo.getD (.lit 0),hi.getD (.lit 0) with
    | .lit 0,.lit 0=>.val .nilSlice
    | _, _ => .fail "slice of nil"
   | .nilSlice,some m=>match lo.getD (.lit 0),hi,m with
    | .lit 0,some (.lit 0),.lit 0=>.val .nilSlice
    | _, _, _ => .fail "slice of nil"
   | _, _ => .fail "slice"
  | none => .fail "slice"
 | _ => .fail "slice of what"
def makeRowA (P:Program) (G:Ctx) (H:AHeap) (e:TypeId) (l c:SI):AOut :=
 match P.info? e with
 | some i=>match i.zero.bind ofConst with
  | some z=>match patOf z.cells,l.range G with
   | some pat,some r=>if l=c∧pat.length=i.size∧i.size≠0∧i.bytes≤4096∧r.2≤2 ^ 26 then
     withB G (mkLss G l (.lit 0)) (.fail "makeSlice") (.eff (.slice H.next (.lit 0) l l) (H.new (.row .own (.con 0) l pat e)))
     else .fail "makeSlice: open"
   | _, _ => .fail "makeSlice: open"
  | none => .fail "makeSlice"
 | none => .fail "makeSlice"
def bigRow (l c:Nat):Bool:=Nat.beq l c&&Nat.blt 64 c&&Nat.ble c 4096
def makeSliceL (P:Program) (H:AHeap) (e:TypeId) (l c:Nat):AOut :=
  match P.info? e with
  | some i =>
   if l≤c∧c≤2 ^ 26∧i.bytes≤4096 then
    match i.size,i.zero.bind ofConst with
    | 1,some z=>(match z.cells with
     | [y]=>if y.one then (if c≤64 then .eff (.slice H.next (.lit 0) (.lit l) (.lit c)) (H.new (.cells (repeatL [y] c) e))
      else .eff (.slice H.next (.lit 0) (.lit l) (.lit c)) (H.new (.rep c y .nil e))) else .fail "makeSlice"
     | _ => .fail "makeSlice")
    | n, some z => if z.cells.length = n ∧ n ≠ 0 then .eff (.slice H.next (.lit 0) (.lit l) (.lit c)) (H.new (.cells (repeatL z.cells c) e)) else .fail "makeSlice"
    | _, none => .fail "makeSlice: no zero"
   else .fail "makeSlice: too large"
  | none => .fail "makeSlice"
def makeSliceA (P:Program) (G:Ctx) (H:AHeap) (t:TypeId) (len cap:AV):AOut :=
 match P.underlying t,len,cap with
 | some (.slice e),.int _ (.lit (.ofNat l)),.int _ (.lit (.ofNat c))=>bif bigRow l c then (match makeRowA P G H e (.lit l) (.lit c) with
   | .fail _=>makeSliceL P H e l c
   | r=>r) else makeSliceL P H e l c
 | some (.slice e),.int _ l,.int _ c=>makeRowA P G H e l c
 | _, _, _ => .fail "makeSlice"
def makeSliceQ (P:Program) (G:Ctx) (H:AHeap) (t:TypeId) (len cap:AV):AOut :=
 match makeSliceA P G H t len cap with
 | .fail w=>(match len,cap with
  | .int k l,.int k' c=>if l=c then pinned G l (fun n=>makeSliceA P G H t (.int k n) (.int k' n)) else .fail w
  | _,_=>.fail w)
 | r=>r
def sliceCells (H:AHeap) (size:Nat):AV→Option (List AV)
 | .nilSlice=>some []
 | .slice id (.lit (.ofNat off)) (.lit (.ofNat n)) _=>match H.get id with
  | some b=>loadN H b off (n*size)
  | none=>none
 | .slack id skip size' n=>if size'=size then (match H.get id with
  | some b=>loadN H b (skip*size) (n*size)
  | none=>none) else none
 | .empty _=>some []
 | _=>none
def lenOfA:AV→Option Nat
 | .nilSlice=>some 0
 | .slice _ _ (.lit (.ofNat n)) _=>some n
 | .slack _ _ _ n=>some n
 | .empty _=>some 0
 | _=>none
def chanGet (G:Ctx) (H:AHeap) (id:Nat):Option ((Nat × List AV) ⊕ SB) :=
 match H.get id with
 | some (.chan cap buf)=>some (.inl (cap,buf))
 | some (.chanB s v)=>match s.know G with
  | some true=>some (.inl (1,[v]))
  | some false=>some (.inl (1,[]))
  | none=>some (.inr (s.atom G))
 | _=>none
def lenA (P:Program) (G:Ctx) (H:AHeap) (t:TypeId) (x:AV):AOut :=
 match P.underlying t,x with
 | some (.slice _),x=>match lenOfA x with
  | some n=>.val (.int .i64 (.lit n))
  | none=>match x with
   | .slice _ _ n _ => withB G (mkLss G n (.lit 0)) (.fail "len") (.val (.int .i64 n))
   | .oslice _ _ n=>.val (.int .i64 n)
   | x=>match lenIte x with
    | some n => withB G (mkLss G n (.lit 0)) (.fail "len") (.val (.int .i64 n))
    | none => .fail "len"
 | some (.array n _),_=>.val (.int .i64 (.lit n))
 | some (.chan _ _),.chan id=>match chanGet G H id with
  | some (.inl (_,buf))=>.val (.int .i64 (.lit buf.length))
  | some (.inr s)=>.fork s
  | _ => .fail "len"
 | _, _ => .fail "len"
def methA (P:Program) (t:TypeId) (name:String):Option (FuncId × Bool) :=
 match P.info? t with
 | some i=>match i.methods.find? (·.name == name) with
  | some m=>if m.path.isEmpty then m.func else none
  | none=>none
 | none=>none
inductive ExtOp where
 | loadInt (k:IntKind) | storeInt | addInt (k:IntKind) | casInt (k:IntKind) | able | unable | acquire | release | releaseMerge
def extA (name:String):Option ExtOp :=
 if name = "sync/atomic.LoadInt64" then some (.loadInt .i64)
 else if name = "sync/atomic.AddInt64" then some (.addInt .i64)
 else if name = "sync/atomic.LoadUint64" then some (.loadInt .u64)
 else if name = "sync/atomic.AddUint64" then some (.addInt .u64)
 else if name = "sync/atomic.CompareAndSwapUint64" then some (.casInt .u64)
 else if name = "sync/atomic.LoadInt32" then some (.loadInt .i32)
 else if name = "sync/atomic.AddInt32" then some (.addInt .i32)
 else if name = "sync/atomic.CompareAndSwapInt32" then some (.casInt .i32)
 else if name = "sync/atomic.StoreUint64" then some .storeInt
 else if name = "internal/race.Disable" then some .unable
 else if name = "internal/race.Enable" then some .able
 else if name = "internal/race.Acquire" then some .acquire
 else if name = "internal/race.Release" then some .release
 else if name = "internal/race.ReleaseMerge" then some .releaseMerge
 else none
def cellX (G:Ctx) (H:AHeap) (id:Nat) (off:SI):AV ⊕ AOut :=
 match H.get id with
 | some (.row md a n pat _) => if md.isRo = false then cellRow G a n pat off else .inr (.fail "atomic: read alone")
 | some b=>(match off with
  | .lit (.ofNat o)=>(match b.cell o with
   | some v=>.inl v
   | none => .inr (.fail "atomic: which cell?"))
  | _ => .inr (.fail "atomic: where?"))
 | none => .inr (.fail "atomic: no block")
def setX (G:Ctx) (H:AHeap) (id:Nat) (off:SI) (v:AV):AHeap ⊕ AOut :=
 match H.get id with
 | some (.row md a n pat e)=>if md.isRo=false then (match setRow G a n pat off v with
   | .inl a'=>.inl (H.upd id (.row md a' n pat e))
   | .inr o => .inr o) else .inr (.fail "atomic: read alone")
 | some b=>(match off with
  | .lit (.ofNat o)=>(match b.setCell o v with
   | some b'=>.inl (H.upd id b')
   | none => .inr (.fail "atomic: which cell?"))
  | _ => .inr (.fail "atomic: where?"))
 | none => .inr (.fail "atomic: no block")
def extern (G:Ctx) (H:AHeap) (e:ExtOp) (args:List AV):AOut :=
 match e,args with
 | .able,_=>.val undefA
 | .unable,_=>.val undefA
 | .acquire,.ptr _ _::_=>.val undefA
 | .release,.ptr _ _::_=>.val undefA
 | .releaseMerge,.ptr _ _::_=>.val undefA
 | .casInt k,[.ptr id off,.int k1 old,.int k2 new] =>
  match cellX G H id off with
  | .inl (.int k' n)=>if k=k'∧k1=k∧k2=k then
    withB G (mkEql G n old)
     (match setX G H id off (.int k new) with
     | .inl H'=>.eff (.bool (.lit true)) H'
     | .inr o=>o)
     (.val (.bool (.lit false)))
   else .fail "atomic"
  | .inl _ => .fail "atomic cas"
  | .inr o=>o
 | .storeInt,[.ptr id off,.int k v] =>
  match cellX G H id off with
  | .inl (.int k' _)=>if k=k' then
    match setX G H id off (.int k v) with
    | .inl H'=>.eff undefA H'
    | .inr o=>o
   else .fail "atomic"
  | .inl _ => .fail "atomic store"
  | .inr o=>o
 | .loadInt k,[.ptr id off] =>
  match cellX G H id off with
  | .inl (.int k' n) => if k = k' then .val (.int k n) else .fail "atomic"
  | .inl _ => .fail "atomic load"
  | .inr o=>o
 | .addInt k,[.ptr id off,.int k2 d] =>
  match cellX G H id off with
  | .inl (.int k' n)=>if k=k' then
    match setX G H id off (.int k (mkWrap G k (mkAdd n d))) with
    | .inl H'=>.eff (.int k (mkWrap G k (mkAdd n d))) H'
    | .inr o=>o
   else .fail "atomic"
  | .inl _ => .fail "atomic add"
  | .inr o=>o
 | _, _ => .fail "atomic"
def callFuncA (P:Program) (G:Ctx) (H:AHeap) (f:FuncId) (args:List AV):AOut :=
 match P.funcs[f]? with
 | none => .fail "no such function"
 | some fn =>
  if fn.name == "runtime.NumGoroutine" then .fail "NumGoroutine"
  else match fn.body with
   | some _=>.enter f args
   | none => if fn.origin ≠ "" then .fail "extern" else match extA fn.name with
    | some e=>extern G H e args
    | none => .fail ("extern " ++ fn.name)
def invokeA (P:Program) (G:Ctx) (H:AHeap) (f:AV) (args:List AV):AOut :=
 match f with
 | .func (.func g) first captured=>callFuncA P G H g (first++args++captured)
 | .yieldF l=>.round l args
 | _ => .fail "call of what"
def methodA (P:Program) (G:Ctx) (H:AHeap) (recv:AV) (name:String) (args:List AV):AOut :=
 match recv with
 | .iface t v =>
  match methA P t name with
  | some (f,pr)=>match P.underlying t,pr with
   | some (.pointer _),true=>callFuncA P G H f (v::args)
   | some (.pointer _), false => .fail "method of a pointer's element"
   | some _,false=>callFuncA P G H f (v::args)
   | _, _ => .fail "method"
  | none => .fail "method: none, or promoted"
 | _ => .fail "invoke"
def minA (G:Ctx):List AV→AOut
 | [.int k a, .int k' b] => if k = k' then withB G (mkLss G b a) (.val (.int k b)) (.val (.int k a)) else .fail "min"
 | _ => .fail "min"
def maxA (G:Ctx):List AV→AOut
 | [.int k a, .int k' b] => if k = k' then withB G (mkLss G a b) (.val (.int k b)) (.val (.int k a)) else .fail "max"
 | _ => .fail "max"
def rowVals (G:Ctx):List CK→List AV→List SI ⊕ AOut
 | [],[]=>.inl []
 | ck::cks,v::vs=>match rowVal G ck v with
  | .inl x=>match rowVals G cks vs with
   | .inl r=>.inl (x::r)
   | .inr o=>.inr o
  | .inr o=>.inr o
 | _, _ => .inr (.fail "a row: as many")
def updMany (a off:SI):List SI→SI
 | []=>a
 | x::r=>updMany (.upd a off x) (mkAdd off (.lit 1)) r
def repPat (pat:List CK):Nat→List CK
 | 0=>[]
 | m+1=>pat++repPat pat m
def appendRow (G:Ctx) (H:AHeap) (e:TypeId) (size m:Nat) (id:Nat) (len:SI) (new:List AV):AOut :=
 match H.get id,len.range G with
 | some (.row .opn a n pat e'),some r=>if n=len∧e'=e∧pat.length=size∧r.2+m≤1048576∧0<m then
   match rowVals G (repPat pat m) new with
   | .inl xs=>.eff (.oslice H.next size (mkAdd len (.lit m))) { m:=(H.m.put id none).set H.next (.row .opn (updMany a (mkMul len (.lit size)) xs) (mkAdd len (.lit m)) pat e),next:=H.next+1,gs:=H.gs }
   | .inr o=>o
  else .fail "append: a row"
 | _, _ => .fail "append: a row"
def cloneRow (G:Ctx) (H:AHeap) (e:TypeId) (size:Nat) (s:AV) (id:Nat) (off len:SI):AOut :=
 match H.get id,len.range G with
 | some (.row md a n pat e'),some r=>match md.offOf off with
  | some off=>match splitOff size off with
   | some (_,0)=>if e'=e∧pat.length=size∧size≠0∧0≤r.1∧r.2≤1048576 then
     withB G (mkEql G len (.lit 0)) (.val s)
      (withB G (mkLss G off (.lit 0)) (.fail "append: a row") (withB G (mkLss G (mkMul n (.lit size)) (mkAdd off (mkMul len (.lit size)))) (.fail "append: a row")
       (.eff (.oslice H.next size len) (H.new (.row .opn (if off=.lit 0 then a else .app (.con 0) (.lit 0) a off) len pat e)))))
    else .fail "append: a row"
   | _ => .fail "append: a row"
  | none => .fail "append: a row"
 | _, _ => .fail "append: a row"
def noRoom:AV→Bool
 | .nilSlice=>true
 | .empty true=>true
 | .slice _ _ (.lit 0) (.lit 0)=>true
 | _=>false
def appendA (P:Program) (G:Ctx) (H:AHeap) (argTypes:Array TypeId) (args:List AV):AOut :=
 match argTypes[0]?,argTypes[1]?,args with
 | some st,some xt,[s,x] =>
  match P.underlying st,P.underlying xt with
  | some (.slice e),some (.slice _) =>
   match P.info? e with
   | some i =>
    match lenOfA s,lenOfA x with
    | some n,some m =>
     match sliceCells H i.size s,sliceCells H i.size x with
     | some old,some new =>
      if i.bytes = 0 ∨ 4096 < i.bytes ∨ 1048576 < n + m ∨ i.zero.map (·.cells.size) ≠ some i.size ∨ new.all AV.one = false then .fail "append" else
      if m = 0 then (match s with | .slice _ _ _ (.lit (.ofNat c)) => if n ≤ c then .val s else .fail "append" | .slice .. => .fail "append" | _ => .val s) else
      let grown:AOut:=.eff (.slack H.next 0 i.size (n+m)) (H.new (.opn (old++new) e i.size))
      match s with
      | .nilSlice=>grown
      | .empty true=>grown
      | .slice id (.lit (.ofNat off)) _ (.lit (.ofNat c)) =>
       if n+m≤c then
        (match H.get id with
        | some b=>match b.rw,storeN b (off+n*i.size) new with
         | true,some b'=>.eff (.slice id (.lit off) (.lit (n+m:Nat)) (.lit c)) (H.upd id b')
         | _, _ => .fail "append"
        | none => .fail "append")
       else grown
      | .slack id 0 _ _=>match H.get id with
       | some (.opn cs e' size')=>if cs.length=n*i.size∧e'=e∧size'=i.size then
         .eff (.slack H.next 0 i.size (n + m)) { m := (H.m.put id none).set H.next (.opn (old ++ new) e i.size), next := H.next + 1, gs := H.gs } else .fail "append: an older one"
       | _ => .fail "append"
      | _ => .fail "append"
     | _, _ => .fail "append: open"
    | none,some m=>(match s,sliceCells H i.size x with
     | .oslice id size' len,some new =>
      if i.bytes = 0 ∨ 4096 < i.bytes ∨ i.zero.map (·.cells.size) ≠ some i.size ∨ size' ≠ i.size then .fail "append" else
      if m=0 then .val s else appendRow G H e i.size m id len new
     | _, _ => .fail "append: open")
    | some 0,none =>
     if i.bytes = 0 ∨ 4096 < i.bytes ∨ i.zero.map (·.cells.size) ≠ some i.size ∨ noRoom s = false then .fail "append" else
     (match x with
     | .oslice id size' len => if size' = i.size then cloneRow G H e i.size s id (.lit 0) len else .fail "append"
     | .slice id off len _=>cloneRow G H e i.size s id off len
     | _ => .fail "append: open")
    | _, _ => .fail "append: open"
   | none => .fail "append"
  | _, _ => .fail "append"
 | _, _, _ => .fail "append"
def openT (G:Ctx):List AV→Option SB
 | []=>none
 | .bool (.lit _)::r=>openT G r
 | .bool s::r=>(match s.know G with
  | some _=>openT G r
  | none=>some (s.atom G))
 | _::r=>openT G r
def openNew (G:Ctx) (H:AHeap):List AV→Option SB
 | [_,.slice id _ _ _]=>(match H.get id with
  | some (.cells cs _)=>openT G cs
  | _=>none)
 | _=>none
def builtinA (P:Program) (G:Ctx) (H:AHeap) (b:Builtin) (argTypes:Array TypeId) (args:List AV):AOut :=
 match b,args with
 | .len,[x]=>match argTypes[0]? with
  | some t=>lenA P G H t x
  | none => .fail "len"
 | .min,l=>minA G l
 | .max,l=>maxA G l
 | .append,l=>(match openNew G H l with
  | some s=>.fork s
  | none=>appendA P G H argTypes l)
 | _, _ => .fail "builtin"
def typeAssertA (P:Program) (x:AV) (asserted:TypeId) (commaOk:Bool):AOut :=
 match P.underlying asserted,x with
 | some (.interface _), _ => .fail "assert to an interface"
 | some _,.iface t v=>if t=asserted then .val (if commaOk then .tuple [v,.bool (.lit true)] else v) else
   if commaOk then (match zeroB P asserted with | some z => .val (.tuple [z, .bool (.lit false)]) | none => .fail "assert") else .fail "assert"
 | some _, .nilIface => if commaOk then (match zeroB P asserted with | some z => .val (.tuple [z, .bool (.lit false)]) | none => .fail "assert") else .fail "assert"
 | _, _ => .fail "assert"
def partA (P:Program) (G:Ctx) (t:TypeId) (cs:List AV) (off:Nat):AOut :=
 match isAggB P t with
 | some true=>match sizeB P t with
  | some n=>.val (.agg ((cs.drop off).take n))
  | none => .fail "part"
 | some false=>match cs[off]? with
  | some v=>valA G v
  | none => .fail "part"
 | none => .fail "part"
def unOpA (G:Ctx) (o:UnOp) (x:AV):AOut :=
 match o,x with
 | .not,.bool b=>.val (.bool (mkNot b))
 | .neg,.int k n=>.val (.int k (mkWrap G k (mkSub (.lit 0) n)))
 | .xor,.int k n=>.val (.int k (mkBits .xor k (.lit (if k.signed then -1 else k.max)) n))
 | _, _ => .fail "unOp"
def isConstO:Operand→Bool
 | .const _=>true
 | _=>false
def numA (ev:Operand→AV):Option Operand→Option (Option SI)
 | none=>some none
 | some p=>match ev p with
  | .int _ n=>some (some n)
  | _=>none
def selectA (P:Program) (G:Ctx) (H:AHeap) (c:AV) (snd:Option AV) (elem:TypeId):AOut :=
 match c,zeroB P elem with
 | .chan id,some z=>match chanGet G H id with
  | some (.inr s)=>.fork s
  | some (.inl (cap,buf))=>match snd with
   | none=>match buf with
    | []=>.eff (.tuple [.int .i64 (.lit (-1)),.bool (.lit false),z]) H
    | v::r=>.eff (.tuple [.int .i64 (.lit 0),.bool (.lit true),v]) (H.upd id (.chan cap r))
   | some x => if x.isRaw then .fail "select" else if buf.length < cap then .eff (.tuple [.int .i64 (.lit 0), .bool (.lit false)]) (H.upd id (.chan cap (buf ++ [x])))
    else .eff (.tuple [.int .i64 (.lit (-1)),.bool (.lit false)]) H
  | _ => .fail "select"
 | _, _ => .fail "select"
def recvA (P:Program) (G:Ctx) (H:AHeap) (t:TypeId) (c:AV) (ok:Bool):AOut :=
 match P.underlying t with
 | some (.chan _ elem)=>match c,zeroB P elem with
  | .chan id,some _=>match chanGet G H id with
   | some (.inr s)=>.fork s
   | some (.inl (cap,v::r))=>.eff (if ok then .tuple [v,.bool (.lit true)] else v) (H.upd id (.chan cap r))
   | _ => .fail "recv waits"
  | _, _ => .fail "recv"
 | _ => .fail "recv"
def makeChanA (P:Program) (H:AHeap) (t:TypeId) (n:AV):AOut :=
 match P.underlying t,n with
 | some (.chan _ elem),.int _ (.lit (.ofNat n))=>match P.info? elem with
  | some i => if (n : Int) ≤ IntKind.i64.max ∧ i.bytes * n ≤ 2 ^ 48 - 112 then .eff (.chan H.next) (H.new (.chan n [])) else .fail "makeChan"
  | none => .fail "makeChan"
 | _, _ => .fail "makeChan"
def findA (G:Ctx) (k:IntKind) (n:SI) (found:AV→AOut) (none_:AOut):List (AV × AV)→AOut
 | []=>none_
 | (.int k' m, v) :: r => if k = k' then withB G (mkEql G n m) (found v) (findA G k n found none_ r) else .fail "a map's key"
 | _ => .fail "a map's key"
def lookupA (P:Program) (G:Ctx) (H:AHeap) (t:TypeId) (x key:AV) (ok:Bool):AOut :=
 let answer (v:AV) (b:Bool):AOut:=.val (if ok then .tuple [v,.bool (.lit b)] else v)
 match P.underlying t with
 | some (.map kt et)=>match P.underlying kt,key,zeroB P et with
  | some (.int _),.int k n,some z=>match x with
   | .nilMap=>answer z false
   | .map id=>match H.get id with
    | some (.map es)=>findA G k n (fun v=>answer v true) (answer z false) es
    | _ => .fail "lookup"
   | _ => .fail "lookup"
  | _, _, _ => .fail "lookup: a key"
 | _ => .fail "lookup"
def mapSetA (P:Program) (G:Ctx) (H:AHeap) (t:TypeId) (m key v:AV):AOut :=
 match P.underlying t with
 | some (.map kt _)=>match P.underlying kt,key,m with
  | some (.int _),.int k n,.map id=>match H.get id with
   | some (.map es) => findA G k n (fun _ => .fail "a map: a key that is there") (if v.isRaw then .fail "a map" else .eff undefA (H.upd id (.map (es ++ [(.int k n, v)])))) es
   | _ => .fail "a map"
  | _, _, _ => .fail "a map: a key"
 | _ => .fail "a map"
def deferA (f:AV) (args:List AV):AOut :=
 match f with
 | .func (.func g) first captured=>.defer (.call g (first++args++captured))
 | _ => .fail "defer"
def indexVA (P:Program) (G:Ctx) (t:TypeId) (x:AV) (i:SI):AOut:=match P.underlying t,x,i with
 | some (.array len e),.agg cs,.lit (.ofNat n)=>match sizeB P e with
  | some s => if n < len then partA P G e cs (n * s) else .fail "index"
  | none => .fail "index"
 | _, _, _ => .fail "index"
def opA (P:Program) (G:Ctx) (H:AHeap) (ev:Operand→AV) (op:Op):AOut :=
 match op with
 | .move x=>.val (ev x)
 | .assign x=>.val (ev x)
 | .pick c a b=>match ev c with
  | .bool t=>withB G t (.val (ev a)) (.val (ev b))
  | _ => .fail "pick"
 | .alloc e=>match zeroB P e with
  | some z=>allocA H z.cells e
  | none => .fail "alloc"
 | .box e x => if (ev x).isRaw then .fail "box" else allocA H (ev x).cells e
 | .build t parts=>match (P.info? t).bind (·.zero),P.underlying t with
  | some zv,some (.struct fs)=>match ofConst zv,placesA P fs with
   | some z,some pl=>match fillA (fun i=>pl[i]?) z.cells (parts.toList.map fun p=>(p.1,ev p.2)) with
    | some cs=>.val (.agg cs)
    | none => .fail "build"
   | _, _ => .fail "build"
  | some zv,some (.array _ e)=>match ofConst zv,sizeB P e with
   | some z,some n=>match fillA (fun i=>some (i*n,n)) z.cells (parts.toList.map fun p=>(p.1,ev p.2)) with
    | some cs=>.val (.agg cs)
    | none => .fail "build"
   | _, _ => .fail "build"
  | _, _ => .fail "build"
 | .buildSlice t len parts=>buildSliceA P H t len (parts.toList.map fun p=>(p.1,ev p.2))
 | .load t a=>match ev a with
  | .ptr id (.lit (.ofNat off))=>match loadAt P H t id off with
   | some v=>valA G v
   | none=>match H.get id with
    | some (.row md a n pat _)=>loadRowM P G t md a n pat (.lit off)
    | some (.ros o n cs _)=>loadRos P G t o n cs (.lit off)
    | _ => .fail "load"
  | .ptr id off=>match H.get id with
   | some (.row md a n pat _)=>loadRowM P G t md a n pat off
   | some (.ros o n cs _)=>loadRos P G t o n cs off
   | _ => .fail "load from where"
  | _ => .fail "load from where"
 | .store t a x=>match ev a with
  | .ptr id (.lit (.ofNat off)) => if (ev x).isRaw then .fail "store" else match storeAt P H t id off (ev x) with
   | some H'=>.eff undefA H'
   | none=>match H.get id with
    | some (.row md a n pat e)=>storeRow P G H t id md a n pat e (.lit off) (ev x)
    | _ => .fail "store"
  | .ptr id off=>match H.get id with
   | some (.row md a n pat e)=>storeRow P G H t id md a n pat e off (ev x)
   | _ => .fail "store where"
  | _ => .fail "store where"
 | .nilCheck x=>match ev x with
  | .ptr id off=>.val (.ptr id off)
  | .iface t v=>.val (.iface t v)
  | .func (.func f) a b=>.val (.func (.func f) a b)
  | .yieldF l=>.val (.yieldF l)
  | _ => .fail "nilCheck"
 | .binOp o t x y _=>match ev x,ev y with
  | .int k a,.int k' b=>match o with
   | .shl=>pinned G b (shiftA G o k a)
   | .shr=>pinned G b (shiftA G o k a)
   | _ => if k = k' then arith G o k a b else .fail "kinds"
  | .agg us,.agg vs=>match o with
   | .eql=>aggEqA P G t (.agg us) (.agg vs) false
   | .neq=>aggEqA P G t (.agg us) (.agg vs) true
   | _ => .fail "binOp"
  | u,v=>match o with
   | .eql=>match eqlI P H t (isConstO x||isConstO y) G u v with
    | some s=>.val (.bool s)
    | none => .fail "=="
   | .neq=>match eqlI P H t (isConstO x||isConstO y) G u v with
    | some s=>.val (.bool (mkNot s))
    | none => .fail "!="
   | _ => .fail "binOp"
 | .unOp o _ x=>unOpA G o (ev x)
 | .convert s d x=>match P.underlying s,P.underlying d,ev x with
  | some _,some (.int k),.int _ n=>.val (.int k (wrapK G k n))
  | some (.pointer t),some .unsafePointer,.ptr id (.lit (.ofNat off))=>match sizeB P t,H.get id with
   | some (_+1),some b=>match b.cell off with
    | some _=>.val (.ptr id (.lit off))
    | none => .fail "convert"
   | _, _ => .fail "convert"
  | _, _, _ => .fail "convert"
 | .makeInterface t x=>match P.underlying t with
  | some (.interface _) => .fail "makeInterface"
  | some _=>.val (.iface t (ev x))
  | none => .fail "makeInterface"
 | .makeFunc fn first captured=>match fn with
  | .yield _ => .fail "makeFunc"
  | _=>.val (.func fn (first.toList.map ev) (captured.toList.map ev))
 | .makeSlice t l c=>makeSliceQ P G H t (ev l) (ev c)
 | .slice t x lo hi mx =>
  match numA ev lo,numA ev hi,numA ev mx with
  | some l,some h,some m=>sliceA P G t (ev x) (l.map (litK G)) (h.map (litK G)) (m.map (litK G))
  | _, _, _ => .fail "slice"
 | .fieldAddr s x f=>match P.underlying s,ev x with
  | some (.struct fs),.ptr id off=>match fs[f]? with
   | some fd=>match sizeB P fd.type with
    | some (_+1)=>.val (.ptr id (mkAdd off (.lit fd.offset)))
    | _ => .fail "fieldAddr: no size"
   | none => .fail "fieldAddr"
  | _, _ => .fail "fieldAddr"
 | .field t x f=>match P.underlying t,ev x with
  | some (.struct fs),.agg cs=>match fs[f]? with
   | some fd=>partA P G fd.type cs fd.offset
   | none => .fail "field"
  | _, _ => .fail "field"
 | .indexAddr t x i=>match ev i with
  | .int _ n=>indexAddrA P G H t (ev x) n
  | _ => .fail "indexAddr"
 | .index t x i=>match ev i with
  | .int _ n=>pinned G n (indexVA P G t (ev x))
  | _ => .fail "index"
 | .extract t i=>match ev t with
  | .tuple vs=>match vs[i]? with
   | some v=>.val v
   | none => .fail "extract"
  | _ => .fail "extract"
 | .typeAssert x _ a ok=>typeAssertA P (ev x) a ok
 | .call c=>match c.callee with
  | .value f=>invokeA P G H (ev f) (c.args.toList.map ev)
  | .invoke r name=>methodA P G H (ev r) name (c.args.toList.map ev)
  | .builtin b=>builtinA P G H b c.argTypes (c.args.toList.map ev)
 | .lookup t x i ok=>lookupA P G H t (ev x) (ev i) ok
 | .makeMap t r=>match P.underlying t,r with
  | some (.map _ _),none=>.eff (.map H.next) (H.new (.map []))
  | some (.map _ _),some p=>match ev p with
   | .int _ _=>.eff (.map H.next) (H.new (.map []))
   | _ => .fail "makeMap"
  | _, _ => .fail "makeMap"
 | .mapUpdate t m k x=>mapSetA P G H t (ev m) (ev k) (ev x)
 | .insert t m k x=>mapSetA P G H t (ev m) (ev k) (ev x)
 | .defer c=>match c.callee with
  | .value f=>deferA (ev f) (c.args.toList.map ev)
  | _ => .fail "defer"
 | .sliceToArrayPointer t x=>match P.underlying t,ev x with
  | some (.array n _), .slice id off len cap => withB G (mkLss G len (.lit n)) (.fail "too short") (.val (.ptr id off))
  | some (.array n _), .slack id skip size len => if n ≤ len then .val (.ptr id (.lit (skip * size : Nat))) else .fail "too short"
  | _, _ => .fail "sliceToArrayPointer"
 | .makeChan t n=>makeChanA P H t (ev n)
 | .recv t c ok=>recvA P G H t (ev c) ok
 | .select cases false=>match cases.toList with
  | [c]=>selectA P G H (ev c.chan) (c.send.map ev) c.elem
  | _ => .fail "select"
 | _ => .fail "no such operation here"
end
end Go.Ev
