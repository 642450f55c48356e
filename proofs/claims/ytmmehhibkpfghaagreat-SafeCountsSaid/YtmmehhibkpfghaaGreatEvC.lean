/- Ev, part C: one step of a configuration, and the search through all ways. Definitions alone. -/
import Derived.Test.YtmmehhibkpfghaaGreatEvB
set_option linter.unusedVariables false
namespace Go.Ev
noncomputable section
mutual
def AV.beq:AV→AV→Bool
 | .bool a,.bool b=>a=b
 | .int k a,.int l b=>k=l&&a=b
 | .str a,.str b=>a=b
 | .nilPtr,.nilPtr=>true
 | .ptr i a,.ptr j b=>i == j&&a=b
 | .nilSlice,.nilSlice=>true
 | .slice i a b c,.slice j d e f=>i == j&&a=d&&b=e&&c=f
 | .slack i a b c,.slack j d e f=>i == j&&a == d&&b == e&&c == f
 | .empty a,.empty b=>a == b
 | .nilMap,.nilMap=>true
 | .map i,.map j=>i == j
 | .nilChan,.nilChan=>true
 | .chan i,.chan j=>i == j
 | .func f a b,.func g c d=>f=g&&AV.beqL a c&&AV.beqL b d
 | .yieldF i,.yieldF j=>i == j
 | .nilFunc,.nilFunc=>true
 | .iface t x,.iface u y=>t == u&&AV.beq x y
 | .nilIface,.nilIface=>true
 | .agg a,.agg b=>AV.beqL a b
 | .tuple a,.tuple b=>AV.beqL a b
 | .raw i,.raw j=>i == j
 | .oslice i a b,.oslice j c d=>i == j&&a == c&&b=d
 | .ite s x y,.ite t u v=>s=t&&AV.beq x u&&AV.beq y v
 | _,_=>false
def AV.beqL:List AV→List AV→Bool
 | [],[]=>true
 | x::xs,y::ys=>AV.beq x y&&AV.beqL xs ys
 | _,_=>false
end
inductive Out where
 | next (c:Cfg)
 | ways (l:List Cfg)
 | fork (b:SB)
 | done (v:AV) (H:AHeap)
 | fail (why:String)
def AFrame.tmp (fr:AFrame) (t:Tmp):AV:=(fr.tmps.get t).getD undefA
def evalA (tm:Tr AV) (x:Operand):AV:=@Operand.rec (fun _=>Tr AV→AV) (fun t tm=>@Option.rec AV (fun _=>AV) undefA (fun v=>v) (tm.get t))
 (fun v _=>@Option.rec AV (fun _=>AV) (.raw 0) (fun a=>a) (ofConst v)) (fun _ _=>.raw 0) (fun f _=>.func (.func f) [] []) x tm
def okOperand:Operand→Bool
 | .const v=>(ofConst v).isSome
 | .global _=>false
 | _=>true
def okIn (size:Nat) (x:Operand):Bool:=okOperand x&&match x with
 | .tmp t=>decide (t<size)
 | _=>true
def putDst (size:Nat) (tm:Tr AV) (dst:Option Tmp) (v:AV):Option (Tr AV) :=
 match dst with
 | none=>some tm
 | some d=>if d<size then some (tm.set d v) else none
def wantedA (G:Ctx) (ops:Array Oper) (tm:Tr AV) (o:Oper) (yes no:AOut):AOut :=
 match o.guard with
 | none=>yes
 | some (j,want)=>match (ops[j]?).bind (·.dst) with
  | none=>no
  | some d=>match (tm.get d).getD undefA with
   | .bool b=>match b.know G with
    | some t=>if t=want then yes else no
    | none=>.fork (b.atom G)
   | .raw _ => .fail "guard"
   | .any => .fail "guard"
   | .ite _ _ _ => .fail "guard"
   | _=>no
def directPreds (o:Oper):List Nat:=(o.after.toList.filter (Region.binds .any ·)).map (·.on)
def readsOf (ops:Array Oper) (o:Oper):List Tmp:=o.looksAt ops
def readsOk (size:Nat) (ops:Array Oper) (o:Oper):Bool:=o.op.operands.all okOperand&&(readsOf ops o).all fun t=>decide (t<size)
def deIte (G:Ctx):AV→AV
 | .ite s x y=>match s.knowG G with
  | some true=>deIte G x
  | some false=>deIte G y
  | none=>.ite s x y
 | v=>v
def firstIte (G:Ctx) (ev:Operand→AV):List Operand→Option SB
 | []=>none
 | x::r=>match deIte G (ev x) with
  | .ite s _ _=>some (s.atom G)
  | _=>firstIte G ev r
def itesA (P:Program) (G:Ctx) (H:AHeap) (ev:Operand→AV) (op:Op):AOut :=
 match firstIte G ev op.operands.toList with
 | some b=>.fork b
 | none=>opA P G H (fun x=>deIte G (ev x)) op
def opI (P:Program) (G:Ctx) (H:AHeap) (ev:Operand→AV) (op:Op) (r:AOut):AOut:=@AOut.rec (fun _=>Program→Ctx→AHeap→(Operand→AV)→Op→AOut) (fun v _ _ _ _ _=>.val v) (fun v K _ _ _ _ _=>.eff v K)
 (fun f l _ _ _ _ _=>.enter f l) (fun f l _ _ _ _ _=>.round f l) (fun b _ _ _ _ _=>.fork b) (fun _ P G H ev op=>itesA P G H ev op) (fun d _ _ _ _ _=>.defer d) r P G H ev op
def runOp (P:Program) (G:Ctx) (H:AHeap) (size:Nat) (ops:Array Oper) (tm:Tr AV) (o:Oper):AOut :=
 if readsOk size ops o then wantedA G ops tm o (opI P G H (evalA tm) o.op (opA P G H (evalA tm) o.op)) (.val undefA) else .fail "operand"
def okEdges (ops:Array Oper):Bool:=ops.toList.zipIdx.all fun p=>(directPreds p.1).all fun j=>decide (j<p.2)
def maskOf (ops:Array Oper) (i:Nat):Nat:=(Region.before ops).getD i 0
def memIx (i:Nat) (l:List (Nat × Oper)):Bool:=l.any fun p=>Nat.beq p.1 i
def enabledA (undone:List (Nat × Oper)) (o:Oper):Bool:=(directPreds o).all fun p=>!memIx p undone
def settled (ops:Array Oper) (pre:List (Nat × Oper)) (i:Nat) (o:Oper):Bool :=
 pre.all fun p=>match p.2.dst with
  | none=>true
  | some d=>!(readsOf ops o).contains d||(maskOf ops i).testBit p.1
def mayFloat (ops:Array Oper) (pre:List (Nat × Oper)) (i:Nat) (o:Oper):Bool :=
 settled ops pre i o&&match o.dst with
  | none=>true
  | some d=>!(readsOf ops o).contains d&&pre.all fun p=>!(readsOf ops p.2).contains d&&p.2.dst != some d
def checkPre (P:Program) (G:Ctx) (H:AHeap) (size:Nat) (ops:Array Oper) (tm:Tr AV) (pre:List (Nat × Oper)):Bool :=
 pre.all fun p=>match runOp P G H size ops tm p.2 with
  | .val v=>match p.2.dst with
   | some d=>AV.beq v ((tm.get d).getD undefA)
   | none=>true
  | _=>false
def enterFrame (P:Program) (f:FuncId) (args:List AV) (deferred:Bool):Option AFrame :=
 match P.funcs[f]? with
 | some fn=>match fn.body with
  | some c=>if args.length≤fn.ntmps then some { fn:=f,tmps:=putArgs .nil 0 args,size:=fn.ntmps,reg:=.none,todo:=[.code c],defers:=[],returning:=false,deferred,round:=none } else none
  | none=>none
 | none=>none
 where
 putArgs (t:Tr AV) (i:Nat):List AV→Tr AV
  | []=>t
  | v::r=>putArgs (t.set i v) (i+1) r
def exitA (id:Nat):List AItem→Option (List AItem)
 | .inBlock id'::k=>if id'=id then some k else exitA id k
 | _::k=>exitA id k
 | []=>none
def finishA (P:Program) (G:Ctx) (H:AHeap) (fr:AFrame) (v:AV):Option AFrame :=
 match fr.reg with
 | .seq ops i (o::rest)=>match putDst fr.size fr.tmps o.dst v with
  | some tm=>some { fr with tmps:=tm,reg:=.seq ops (i+1) rest }
  | none=>none
 | .any ops ((i,o)::undone) pre=>match putDst fr.size fr.tmps o.dst v with
  | some tm =>
   let pre':=pre.filter fun p=>!(maskOf ops i).testBit p.1
   if checkPre P G H fr.size ops tm pre' then some { fr with tmps:=tm,reg:=.any ops undone pre' } else none
  | none=>none
 | .none=>match fr.todo with
  | .inRangeFunc l::k=>some { fr with todo:=.endRangeFunc l::k }
  | .beginRound::k=>some { fr with todo:=k }
  | _=>none
 | _=>none
def setParams (size:Nat) (tm:Tr AV):List Tmp→List AV→Option (Tr AV)
 | [],[]=>some tm
 | t::ts,a::as=>if t<size then setParams size (tm.set t a) ts as else none
 | _,_=>none
def applyOut (P:Program) (G:Ctx) (c:Cfg) (fr:AFrame) (r:AOut):Out :=
 match r with
 | .val v=>match finishA P G c.heap fr v with
  | some fr'=>.next { c with fr:=fr' }
  | none => .fail "finish"
 | .eff v H=>match finishA P G H fr v with
  | some fr'=>.next { c with fr:=fr',heap:=H }
  | none => .fail "finish"
 | .enter f args=>match enterFrame P f args false with
  | some g=>.next { c with fr:=g,callers:=fr::c.callers }
  | none => .fail "enter"
 | .round l args=>match c.heap.get l with
  | some (.loop _ _ fn tmps size params assign body _)=>match setParams size tmps params.toList args with
   | some tm=>.next { c with fr:={ fn,tmps:=tm,size,reg:=.none,todo:=[.code assign,.beginRound,.code body],defers:=[],returning:=false,deferred:=false,round:=some l },callers:=fr::c.callers }
   | none => .fail "round"
  | _ => .fail "round: no loop"
 | .fork b=>.fork b
 | .fail w=>.fail w
 | .defer d=>if fr.round.isNone then match finishA P G c.heap { fr with defers:=d::fr.defers } undefA with
  | some fr'=>.next { c with fr:=fr' }
  | none => .fail "finish"
  else .fail "defer in a round"
def oneA (P:Program) (H:AHeap) (size:Nat) (tm:Tr AV):ResultVar→Option AV
 | .tmp t=>if t<size then some ((tm.get t).getD undefA) else none
 | .cell a t=>if a<size then (match (tm.get a).getD undefA with
  | .ptr id (.lit (.ofNat off))=>loadAt P H t id off
  | _=>none) else none
def allA (P:Program) (H:AHeap) (size:Nat) (tm:Tr AV):List ResultVar→Option (List AV)
 | []=>some []
 | r::rs=>match oneA P H size tm r with
  | some v=>match allA P H size tm rs with
   | some l=>some (v::l)
   | none=>none
  | none=>none
def resultA (P:Program) (H:AHeap) (fr:AFrame):Option AV :=
 match P.funcs[fr.fn]? with
 | none=>none
 | some fn=>match allA P H fr.size fr.tmps fn.results.toList with
  | some [v]=>some v
  | some l=>some (.tuple l)
  | none=>none
def handBack (P:Program) (G:Ctx) (c:Cfg) (v:AV):Out :=
 match c.callers with
 | []=>.done v c.heap
 | g::rest=>match finishA P G c.heap g v with
  | some g'=>.next { c with fr:=g',callers:=rest }
  | none => .fail "finish"
def leaveA (P:Program) (G:Ctx) (c:Cfg) (jump:Option Code):Out :=
 let fr:=c.fr
 match fr.round with
 | none=>match jump with
  | none=>.next { c with fr:={ fr with returning:=true } }
  | some .ret=>.next { c with fr:={ fr with returning:=true } }
  | _ => .fail "leave"
 | some l=>match c.heap.get l with
  | some (.loop _ _ fn tmps size params assign body ds) =>
   match c.callers with
   | _ :: _ => if fr.deferred then .fail "leave" else
    let H:=c.heap.upd l (.loop (if jump.isNone then .ready else .done) jump fn tmps size params assign body ds)
    handBack P G { c with heap:=H } (.bool (.lit jump.isNone))
   | [] => .fail "leave: a round alone"
  | _ => .fail "leave: no loop"
def anyWays (P:Program) (G:Ctx) (c:Cfg) (fr:AFrame) (ops:Array Oper) (undone pre:List (Nat × Oper)):List (Nat × Oper × AOut)→List Cfg→Out
 | [],acc=>.ways acc
 | (i,o,r)::l',acc=>if settled ops pre i o then
   match applyOut P G c { fr with reg:=.any ops ((i,o)::undone.filter (fun p=>!Nat.beq p.1 i)) pre } r with
   | .next c'=>anyWays P G c fr ops undone pre l' (c'::acc)
   | .fork b=>.fork b
   | _ => .fail "region: ways"
  else .fail "region: unsettled"
def anyGo (P:Program) (G:Ctx) (c:Cfg) (fr:AFrame) (ops:Array Oper) (undone pre:List (Nat × Oper)):List (Nat × Oper)→List (Nat × Oper × AOut)→Out
 | [],hard=>match hard with
  | [] => .fail "region: nothing is ready"
  | [(i, o, r)] => if settled ops pre i o then applyOut P G c { fr with reg := .any ops ((i, o) :: undone.filter (fun p => !Nat.beq p.1 i)) pre } r else .fail "region: unsettled"
  | l=>anyWays P G c fr ops undone pre l []
 | (i,o)::rs',hard =>
  match runOp P G c.heap fr.size ops fr.tmps o with
  | .val v=>if mayFloat ops pre i o then
    match putDst fr.size fr.tmps o.dst v with
    | some tm=>.next { c with fr:={ fr with tmps:=tm,reg:=.any ops (undone.filter (fun p=>!Nat.beq p.1 i)) ((i,o)::pre) } }
    | none => .fail "region"
   else anyGo P G c fr ops undone pre rs' ((i,o,.val v)::hard)
  | .fork b=>.fork b
  | .fail w=>.fail w
  | r=>anyGo P G c fr ops undone pre rs' ((i,o,r)::hard)
def stepA (P:Program) (G:Ctx) (c:Cfg):Out :=
 let fr:=c.fr
 let to (k:List AItem):Out:=.next { c with fr:={ fr with todo:=k } }
 if fr.returning then
  match fr.defers with
  | []=>match resultA P c.heap fr with
   | some v=>if fr.deferred then (match c.callers with
     | g::rest=>.next { c with fr:={ g with reg:=.none },callers:=rest }
     | [] => .fail "deferred") else handBack P G c v
   | none => .fail "result"
  | .collected b::ds=>match c.heap.get b with
   | some (.deferred (some l))=>.next { c with fr:={ fr with defers:=l++ds,reg:=.none },heap:=c.heap.upd b (.deferred none) }
   | _ => .fail "collected"
  | .call f args::ds=>match callFuncA P G c.heap f args with
   | .enter g as=>match enterFrame P g as true with
    | some e=>.next { c with fr:=e,callers:={ fr with defers:=ds }::c.callers }
    | none => .fail "enter"
   | _ => .fail "deferred call"
 else match fr.reg with
 | .seq ops _ []=>.next { c with fr:={ fr with reg:=.none } }
 | .seq ops i (o::rest)=>applyOut P G c fr (runOp P G c.heap fr.size ops fr.tmps o)
 | .any ops undone pre =>
  match undone with
  | []=>.next { c with fr:={ fr with reg:=.none } }
  | _ =>
   let ready:=undone.filter fun p=>enabledA undone p.2
   anyGo P G c fr ops undone pre ready []
 | .none =>
  match fr.todo with
  | []=>leaveA P G c none
  | .code .ret::_=>leaveA P G c (some .ret)
  | .code .skip::k=>to k
  | .code (.label _)::k=>to k
  | .inBlock _::k=>to k
  | .inScope _::k=>to k
  | .code (.seq a b)::k=>to (.code a::.code b::k)
  | .code (.cond x a b)::k=>if okIn fr.size x then
    match evalA fr.tmps x with
    | .bool s=>match s.know G with
     | some t=>to (.code (if t then a else b)::k)
     | none=>.fork (s.atom G)
    | _ => .fail "cond"
   else .fail "cond"
  | .code (.block id body)::k=>to (.code body::.inBlock id::k)
  | .code (.loop body)::k=>to (.code body::.inLoop body::k)
  | .inLoop body::k=>to (.code body::.inLoop body::k)
  | .code (.scope body)::k=>to (.code body::.inScope body::k)
  | .code (.exit id)::k=>match exitA id k with
   | some k'=>to k'
   | none=>leaveA P G c (some (.exit id))
  | .code (.region _ ops draw)::k =>
   if draw then (if okEdges ops then .next { c with fr := { fr with reg := .any ops (ops.toList.zipIdx.map fun p => (p.2, p.1)) [], todo := k } } else .fail "edges")
   else .next { c with fr:={ fr with reg:=.seq ops 0 ops.toList,todo:=k } }
  | .code (.rangeFunc f params assign body)::k =>
   if okIn fr.size f then
   match fr.round with
   | some _ => .fail "a range within a round"
   | none =>
    let r:=c.heap.next
    let H1:=c.heap.new (.deferred (some []))
    let l:=H1.next
    let H2:=H1.new (.loop .ready none fr.fn fr.tmps fr.size params assign body r)
    let fr':={ fr with todo:=.inRangeFunc l::k,defers:=.collected r::fr.defers }
    match invokeA P G H2 (evalA fr.tmps f) [.yieldF l] with
    | .enter g args=>match enterFrame P g args false with
     | some e=>.next { fr:=e,callers:=fr'::c.callers,heap:=H2 }
     | none => .fail "enter"
    | _ => .fail "rangeFunc"
   else .fail "rangeFunc"
  | .beginRound::k=>match fr.round with
   | some l=>match c.heap.get l with
    | some (.loop .ready p fn tmps size params assign body ds)=>.next { c with fr:={ fr with todo:=k },heap:=c.heap.upd l (.loop .busy p fn tmps size params assign body ds) }
    | _ => .fail "beginRound"
   | none => .fail "beginRound"
  | .endRangeFunc l::k=>match c.heap.get l with
   | some (.loop st p fn tmps size params assign body ds)=>match st with
    | .busy => .fail "endLoop"
    | _=>.next { c with fr:={ fr with todo:=(match p with | some j=>[.code j] | none=>[])++k },heap:=c.heap.upd l (.loop .exhausted p fn tmps size params assign body ds) }
   | _ => .fail "endLoop"
  | _ => .fail "item"
def explore (P:Program) (ok:AV→AHeap→Bool):Nat→Ctx→Cfg→Bool
 | 0,_,_=>false
 | n+1,G,c=>match stepA P G c with
  | .next c'=>explore P ok n G c'
  | .ways l=>l.all fun c'=>explore P ok n G c'
  | .fork b=>explore P ok n { G with asm:=(b,true)::G.asm } (c.refine { G with asm:=(b,true)::G.asm })&&explore P ok n { G with asm:=(b,false)::G.asm } (c.refine { G with asm:=(b,false)::G.asm })
  | .done v H=>ok v H
  | .fail _=>false
def start (P:Program) (f:FuncId) (args:List AV) (H:AHeap):Option Cfg :=
 (enterFrame P f args false).map fun fr=>{ fr,callers:=[],heap:=H }
def isTrueA (v:AV) (_:AHeap):Bool:=match v with | .bool (.lit true)=>true | _=>false
def H0:AHeap:={ m:=.nil,next:=0 }
def G0:Ctx:={ rng:=[],asm:=[] }
def runClosed (P:Program) (f:FuncId) (n:Nat):Bool :=
 match start P f [] H0 with
 | some c=>explore P isTrueA n G0 c
 | none=>false
end
end Go.Ev
