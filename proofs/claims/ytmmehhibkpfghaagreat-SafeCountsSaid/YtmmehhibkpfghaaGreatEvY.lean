/- Ev, part Y: the same steps, in a form that the kernel carries out quicker. -/
import Derived.Test.YtmmehhibkpfghaaGreatEvX
set_option linter.unusedVariables false
namespace Go.Ev
noncomputable section
def okRead (size:Nat) (x:Operand):Bool :=
 @Operand.rec (fun _=>Nat→Bool) (fun t size=>Nat.blt t size) (fun v _=>(ofConst v).isSome) (fun _ _=>false) (fun _ _=>true) x size
def allRead (size:Nat) (l:List Operand):Bool:=@List.rec Operand (fun _=>Nat→Bool) (fun _=>true) (fun x _ ih size=>@Bool.rec (fun _=>Bool) false (ih size) (okRead size x)) l size
def guardF (size:Nat) (ops:Array Oper) (o:Oper):Bool :=
 @Option.rec (Nat × Bool) (fun _=>Bool) true (fun p=>match (ops[p.1]?).bind (·.dst) with
  | some d=>Nat.blt d size
  | none=>true) o.guard
def readsOkF (size:Nat) (ops:Array Oper) (o:Oper):Bool:=@Bool.rec (fun _=>Bool) false (guardF size ops o) (allRead size o.op.operands.toList)
def onLit (n:SI) (k:Nat→AOut) (d:AOut):AOut:=@SI.rec (fun _=>(Nat→AOut)→AOut→AOut)
  (fun n k d=>@Int.rec (fun _=>AOut) (fun m=>k m) (fun _=>d) n) (fun _=>fun _ d=>d) (fun _ _ _ _=>fun _ d=>d) (fun _ _ _ _=>fun _ d=>d) (fun _ _ _ _=>fun _ d=>d) (fun _ _ _ _=>fun _ d=>d) (fun _ _ _ _=>fun _ d=>d) (fun _ _ _=>fun _ d=>d) (fun _ _ _ _ _ _=>fun _ d=>d) (fun _ _ _ _=>fun _ d=>d) (fun _ _ _=>fun _ d=>d) (fun _ _ _ _ _=>fun _ d=>d) (fun _=>fun _ d=>d) (fun _=>fun _ d=>d) (fun _ _ _ _ _ _=>fun _ d=>d) (fun _ _ _ _ _ _ _ _=>fun _ d=>d) (fun _ _ _ _=>fun _ d=>d) (fun _ _ _ _ _=>fun _ d=>d) n k d
def onPtr (v:AV) (k:Nat→SI→AOut) (d:AOut):AOut:=@AV.rec (fun _=>(Nat→SI→AOut)→AOut→AOut) (fun _=>PUnit)
  (fun _=>fun _ d=>d) (fun _ _=>fun _ d=>d) (fun _=>fun _ d=>d) (fun _ d=>d) (fun i o k _=>k i o) (fun _ d=>d) (fun _ _ _ _=>fun _ d=>d) (fun _ _ _ _=>fun _ d=>d) (fun _=>fun _ d=>d) (fun _ d=>d) (fun _=>fun _ d=>d) (fun _ d=>d) (fun _=>fun _ d=>d) (fun _ _ _ _ _=>fun _ d=>d) (fun _=>fun _ d=>d) (fun _ d=>d) (fun _ _ _=>fun _ d=>d) (fun _ d=>d) (fun _ _=>fun _ d=>d) (fun _ _=>fun _ d=>d) (fun _=>fun _ d=>d) (fun _ d=>d) (fun _ _ _=>fun _ d=>d) (fun _ _ _ _ _=>fun _ d=>d) PUnit.unit (fun _ _ _ _=>PUnit.unit) v k d
def onInt (v:AV) (k:IntKind→SI→AOut) (d:AOut):AOut:=@AV.rec (fun _=>(IntKind→SI→AOut)→AOut→AOut) (fun _=>PUnit)
  (fun _=>fun _ d=>d) (fun i o k _=>k i o) (fun _=>fun _ d=>d) (fun _ d=>d) (fun _ _=>fun _ d=>d) (fun _ d=>d) (fun _ _ _ _=>fun _ d=>d) (fun _ _ _ _=>fun _ d=>d) (fun _=>fun _ d=>d) (fun _ d=>d) (fun _=>fun _ d=>d) (fun _ d=>d) (fun _=>fun _ d=>d) (fun _ _ _ _ _=>fun _ d=>d) (fun _=>fun _ d=>d) (fun _ d=>d) (fun _ _ _=>fun _ d=>d) (fun _ d=>d) (fun _ _=>fun _ d=>d) (fun _ _=>fun _ d=>d) (fun _=>fun _ d=>d) (fun _ d=>d) (fun _ _ _=>fun _ d=>d) (fun _ _ _ _ _=>fun _ d=>d) PUnit.unit (fun _ _ _ _=>PUnit.unit) v k d
def single (v:AV):Bool:=@AV.rec (fun _=>Bool) (fun _=>PUnit)
  (fun _=>true) (fun _ _=>true) (fun _=>true) (true) (fun _ _=>true) (true) (fun _ _ _ _=>true) (fun _ _ _ _=>true) (fun _=>true) (true) (fun _=>true) (true) (fun _=>true) (fun _ _ _ _ _=>true) (fun _=>true) (true) (fun _ _ _=>true) (true) (fun _ _=>false) (fun _ _=>false) (fun _=>false) false (fun _ _ _=>true) (fun _ _ _ _ _=>false) PUnit.unit (fun _ _ _ _=>PUnit.unit) v
def cellF (b:AB) (i:Nat):Option AV:=@AB.rec (fun _=>Nat→Option AV) (fun cs _ i=>nthA cs i) (fun n z ov _ i=>@Bool.rec (fun _=>Option AV) none (some (@Option.rec AV (fun _=>AV) z (fun v=>v) (ov.get i))) (Nat.blt i n))
 (fun cs _ _ i=>nthA cs i) (fun _ _ _ _ _ _ _ _ _ _=>none) (fun _ _=>none) (fun _ _ _=>none) (fun _ _ _=>none) (fun _ _=>none) (fun _ _ _ _ _ _=>none) (fun _ _ _ _ _=>none) b i
def loadF (P:Program) (H:AHeap) (t:TypeId) (id off:Nat):Option AV :=
 @Option.rec Bool (fun _=>Option AV) none (fun g=>@Bool.rec (fun _=>Option AV) (@Option.rec AB (fun _=>Option AV) none (fun b=>cellF b off) (H.get id)) (loadAt P H t id off) g) (isAggB P t)
def setCellF (b:AB) (i:Nat) (v:AV):Option AB:=@AB.rec (fun _=>Nat→AV→Option AB)
 (fun cs e i v=>@Bool.rec (fun _=>Option AB) none (some (.cells (cs.set i v) e)) (Nat.blt i cs.length))
 (fun n z ov e i v=>@Bool.rec (fun _=>Option AB) none (some (.rep n z (ov.set i v) e)) (Nat.blt i n))
 (fun cs e n i v=>@Bool.rec (fun _=>Option AB) none (some (.opn (cs.set i v) e n)) (Nat.blt i cs.length))
 (fun _ _ _ _ _ _ _ _ _ _ _=>none) (fun _ _ _=>none) (fun _ _ _ _=>none) (fun _ _ _ _=>none) (fun _ _ _=>none) (fun _ _ _ _ _ _ _=>none) (fun _ _ _ _ _ _=>none) b i v
def isOneB (P:Program) (t:TypeId):Bool:=@Option.rec Nat (fun _=>Bool) false (fun n=>Nat.beq n 1) (sizeB P t)
def slowStore (P:Program) (G:Ctx) (H:AHeap) (t:TypeId) (id off:Nat) (x:AV):AOut :=
 if x.isRaw then .fail "store" else match storeAt P H t id off x with
   | some H'=>.eff undefA H'
   | none=>match H.get id with
    | some (.row md a n pat e)=>storeRow P G H t id md a n pat e (.lit off) x
    | _ => .fail "store"
def storeF (P:Program) (G:Ctx) (H:AHeap) (t:TypeId) (id off:Nat) (v:AV):AOut :=
 @Bool.rec (fun _=>AOut) (slowStore P G H t id off v) (@Bool.rec (fun _=>AOut) (slowStore P G H t id off v)
  (@Option.rec AB (fun _ => AOut) (.fail "store") (fun b => @Option.rec AB (fun _ => AOut) (slowStore P G H t id off v) (fun b' => .eff undefA (H.upd id b')) (setCellF b off v)) (H.get id)) (isOneB P t)) (single v)
def isIte (v:AV):Bool:=@AV.rec (fun _=>Bool) (fun _=>PUnit)
  (fun _=>false) (fun _ _=>false) (fun _=>false) false (fun _ _=>false) false (fun _ _ _ _=>false) (fun _ _ _ _=>false) (fun _=>false) false (fun _=>false) false (fun _=>false) (fun _ _ _ _ _=>false) (fun _=>false) false (fun _ _ _=>false) false (fun _ _=>false) (fun _ _=>false) (fun _=>false) false (fun _ _ _=>false) (fun _ _ _ _ _=>true) PUnit.unit (fun _ _ _ _=>PUnit.unit) v
def valF (G:Ctx) (v:AV):AOut:=@Bool.rec (fun _=>AOut) (.val v) (valA G v) (isIte v)
theorem valF_eq {G:Ctx}{v:AV}:valF G v=valA G v:=by cases v <;> rfl
def binF (G:Ctx) (o:BinOp) (k:IntKind) (a:SI) (l:IntKind) (b:SI):AOut:=match o with
   | .shl=>pinned G b (shiftA G o k a)
   | .shr=>pinned G b (shiftA G o k a)
   | _ => if k = l then arith G o k a b else .fail "kinds"
def fieldOff (P:Program) (s:TypeId) (f:Nat):Option Nat:=match P.underlying s with
  | some (.struct fs)=>match fs[f]? with
   | some fd=>match sizeB P fd.type with
    | some (_+1)=>some fd.offset
    | _=>none
   | none=>none
  | _=>none
def callF (P:Program) (G:Ctx) (H:AHeap) (ev:Operand→AV) (args:Array Operand) (ts:Array TypeId) (c:Callee):AOut:=match c with
  | .value f=>invokeA P G H (ev f) (args.toList.map ev)
  | .invoke r name=>methodA P G H (ev r) name (args.toList.map ev)
  | .builtin b=>builtinA P G H b ts (args.toList.map ev)
def opF (P:Program) (G:Ctx) (H:AHeap) (ev:Operand→AV) (op:Op):AOut:=@Op.rec (fun _=>Program→Ctx→AHeap→(Operand→AV)→AOut)
 (fun x P G H ev=>.val (ev x))
 (fun x P G H ev=>.val (ev x))
 (fun a0 a1 a2 P G H ev=>opA P G H ev (.pick a0 a1 a2))
 (fun a0 P G H ev=>opA P G H ev (.alloc a0))
 (fun a0 a1 P G H ev=>opA P G H ev (.box a0 a1))
 (fun a0 a1 P G H ev=>opA P G H ev (.build a0 a1))
 (fun a0 a1 a2 P G H ev=>opA P G H ev (.buildSlice a0 a1 a2))
 (fun a0 a1 a2 a3 P G H ev=>opA P G H ev (.insert a0 a1 a2 a3))
 (fun t a P G H ev => onPtr (ev a) (fun id off => onLit off (fun o => @Option.rec AV (fun _ => AOut) (opA P G H ev (.load t a)) (fun v => valF G v) (loadF P H t id o)) (opA P G H ev (.load t a))) (.fail "load from where"))
 (fun t a x P G H ev => onPtr (ev a) (fun id off => onLit off (fun o => storeF P G H t id o (ev x)) (opA P G H ev (.store t a x))) (.fail "store where"))
 (fun a0 P G H ev=>opA P G H ev (.ready a0))
 (fun a0 P G H ev=>opA P G H ev (.waits a0))
 (fun a0 P G H ev=>opA P G H ev (.nilCheck a0))
 (fun o t x y u P G H ev=>onInt (ev x) (fun k a=>onInt (ev y) (fun l b=>binF G o k a l b) (opA P G H ev (.binOp o t x y u))) (opA P G H ev (.binOp o t x y u)))
 (fun a0 a1 a2 P G H ev=>opA P G H ev (.unOp a0 a1 a2))
 (fun a0 a1 a2 P G H ev=>opA P G H ev (.convert a0 a1 a2))
 (fun a0 a1 P G H ev=>opA P G H ev (.sliceToArrayPointer a0 a1))
 (fun a0 a1 P G H ev=>opA P G H ev (.makeInterface a0 a1))
 (fun a0 a1 a2 P G H ev=>opA P G H ev (.makeFunc a0 a1 a2))
 (fun a0 a1 P G H ev=>opA P G H ev (.makeMap a0 a1))
 (fun a0 a1 P G H ev=>opA P G H ev (.makeChan a0 a1))
 (fun a0 a1 a2 P G H ev=>opA P G H ev (.makeSlice a0 a1 a2))
 (fun a0 a1 a2 a3 a4 P G H ev=>opA P G H ev (.slice a0 a1 a2 a3 a4))
 (fun s x f P G H ev => @Option.rec Nat (fun _ => AOut) (opA P G H ev (.fieldAddr s x f)) (fun n => onPtr (ev x) (fun id off => .val (.ptr id (mkAdd off (.lit n)))) (.fail "fieldAddr")) (fieldOff P s f))
 (fun a0 a1 a2 P G H ev=>opA P G H ev (.field a0 a1 a2))
 (fun t x i P G H ev => onInt (ev i) (fun _ n => indexAddrA P G H t (ev x) n) (.fail "indexAddr"))
 (fun a0 a1 a2 P G H ev=>opA P G H ev (.index a0 a1 a2))
 (fun a0 a1 a2 a3 P G H ev=>opA P G H ev (.lookup a0 a1 a2 a3))
 (fun a0 a1 a2 a3 P G H ev=>opA P G H ev (.mapUpdate a0 a1 a2 a3))
 (fun a0 a1 a2 P G H ev=>opA P G H ev (.mapEntry a0 a1 a2))
 (fun a0 a1 a2 a3 P G H ev=>opA P G H ev (.entryStore a0 a1 a2 a3))
 (fun a0 a1 P G H ev=>opA P G H ev (.range a0 a1))
 (fun a0 a1 P G H ev=>opA P G H ev (.next a0 a1))
 (fun a0 P G H ev=>opA P G H ev (.entry a0))
 (fun a0 a1 a2 a3 P G H ev=>opA P G H ev (.typeAssert a0 a1 a2 a3))
 (fun a0 a1 P G H ev=>opA P G H ev (.extract a0 a1))
 (fun c P G H ev=>callF P G H ev c.args c.argTypes c.callee)
 (fun a0 P G H ev=>opA P G H ev (.go a0))
 (fun a0 P G H ev=>opA P G H ev (.defer a0))
 (fun a0 P G H ev=>opA P G H ev (.panic a0))
 (fun a0 a1 P G H ev=>opA P G H ev (.send a0 a1))
 (fun a0 a1 a2 P G H ev=>opA P G H ev (.recv a0 a1 a2))
 (fun a0 a1 P G H ev=>opA P G H ev (.select a0 a1))
 op P G H ev
def runOpF (P:Program) (G:Ctx) (H:AHeap) (size:Nat) (ops:Array Oper) (tm:Tr AV) (o:Oper):AOut :=
 @Bool.rec (fun _ => AOut) (.fail "operand") (@Option.rec (Nat × Bool) (fun _ => AOut) (opI P G H (evalA tm) o.op (opF P G H (evalA tm) o.op)) (fun _ => wantedA G ops tm o (opI P G H (evalA tm) o.op (opF P G H (evalA tm) o.op)) (.val undefA)) o.guard) (readsOkF size ops o)
def finishF (P:Program) (G:Ctx) (H:AHeap) (fr:AFrame) (v:AV):Option AFrame :=
 match fr with
 | ⟨fn,tmps,size,reg,todo,defers,ret,dfd,round⟩=>match reg with
  | .seq ops i rest=>match rest with
   | o::rest'=>match o.dst with
    | none=>some ⟨fn,tmps,size,.seq ops (i+1) rest',todo,defers,ret,dfd,round⟩
    | some d=>@Bool.rec (fun _=>Option AFrame) none (some ⟨fn,tmps.set d v,size,.seq ops (i+1) rest',todo,defers,ret,dfd,round⟩) (Nat.blt d size)
   | []=>none
  | .any ops undone pre=>match undone with
   | (i,o)::u=>match putDst size tmps o.dst v with
    | some tm=>match pre.filter fun p=>!(maskOf ops i).testBit p.1 with
     | pre'=>@Bool.rec (fun _=>Option AFrame) none (some ⟨fn,tm,size,.any ops u pre',todo,defers,ret,dfd,round⟩) (checkPre P G H size ops tm pre')
    | none=>none
   | []=>none
  | .none=>match todo with
   | .inRangeFunc l::k=>some ⟨fn,tmps,size,.none,.endRangeFunc l::k,defers,ret,dfd,round⟩
   | .beginRound::k=>some ⟨fn,tmps,size,.none,k,defers,ret,dfd,round⟩
   | _=>none
theorem natBlt (a b:Nat):Nat.blt a b=decide (a<b):=Bool.eq_iff_iff.2 (by simp [Nat.blt_eq])
theorem okRead_eq (size:Nat) (x:Operand):okRead size x=okIn size x:=by
 cases x with
 | tmp t =>
  show Nat.blt t size=(true&&decide (t<size))
  rw[Bool.true_and]
  exact natBlt _ _
 | const v=>simp [okIn,okOperand]; rfl
 | global g=>rfl
 | func f=>rfl
theorem allRead_eq (size:Nat):∀ l:List Operand,allRead size l=l.all (okIn size)
 | []=>rfl
 | x::l=>by
  have ih:=allRead_eq size l
  have e:allRead size (x::l)=@Bool.rec (fun _=>Bool) false (allRead size l) (okRead size x):=rfl
  rw[e,ih,okRead_eq,List.all_cons]
  cases okIn size x <;> rfl
theorem reads_all (size:Nat):∀ l:List Operand,l.all (okIn size)=(l.all okOperand&&(l.filterMap fun | .tmp t=>some t | _=>none).all fun t=>decide (t<size))
 | []=>rfl
 | x::l=>by
  rw[List.all_cons,List.all_cons,reads_all size l]
  cases x <;> simp [okIn,okOperand,Bool.and_assoc,Bool.and_left_comm]
theorem readsOkF_eq {size:Nat}{ops:Array Oper}{o:Oper}:readsOkF size ops o=readsOk size ops o:=by
 have h1:o.op.operands.all okOperand=o.op.operands.toList.all okOperand:=by simp
 have h2:guardF size ops o=((match o.guard with | some (g,_)=>((ops[g]?).bind (·.dst)).toList | none=>[]).all fun t=>decide (t<size)):=by
  unfold guardF
  cases o.guard with
  | none=>rfl
  | some p =>
   obtain⟨j,b⟩:=p
   simp only
   cases (ops[j]?).bind (·.dst) with
   | none=>rfl
   | some d=>simp [natBlt]
 unfold readsOkF readsOk readsOf Oper.looksAt
 rw[List.all_append,h1,allRead_eq,reads_all,h2]
 generalize o.op.operands.toList.all okOperand=a
 generalize (o.op.operands.toList.filterMap fun | .tmp t=>some t | _=>none).all (fun t=>decide (t<size))=b
 cases a <;> cases b <;> rfl
theorem onPtr_eq (v:AV) (k:Nat→SI→AOut) (d:AOut):onPtr v k d=match v with | .ptr i o=>k i o | _=>d:=by cases v <;> rfl
theorem onInt_eq (v:AV) (k:IntKind→SI→AOut) (d:AOut):onInt v k d=match v with | .int i o=>k i o | _=>d:=by cases v <;> rfl
theorem cellF_eq (b:AB) (i:Nat):cellF b i=b.cell i:=by
 cases b with
 | cells cs e=>rfl
 | opn cs e n=>rfl
 | rep n z ov e =>
  show @Bool.rec (fun _=>Option AV) none (some (@Option.rec AV (fun _=>AV) z (fun v=>v) (ov.get i))) (Nat.blt i n)=if i<n then some ((ov.get i).getD z) else none
  rw[natBlt]
  by_cases h:i<n <;> simp [h]
  cases ov.get i <;> rfl
 | _=>rfl
theorem setCellF_eq (b:AB) (i:Nat) (v:AV):setCellF b i v=b.setCell i v:=by
 cases b with
 | cells cs e =>
  show @Bool.rec (fun _=>Option AB) none (some (.cells (cs.set i v) e)) (Nat.blt i cs.length)=if i<cs.length then some (.cells (cs.set i v) e) else none
  rw[natBlt]
  by_cases h:i<cs.length <;> simp [h]
 | opn cs e n =>
  show @Bool.rec (fun _=>Option AB) none (some (.opn (cs.set i v) e n)) (Nat.blt i cs.length)=if i<cs.length then some (.opn (cs.set i v) e n) else none
  rw[natBlt]
  by_cases h:i<cs.length <;> simp [h]
 | rep n z ov e =>
  show @Bool.rec (fun _=>Option AB) none (some (.rep n z (ov.set i v) e)) (Nat.blt i n)=if i<n then some (.rep n z (ov.set i v) e) else none
  rw[natBlt]
  by_cases h:i<n <;> simp [h]
 | _=>rfl
theorem loadF_eq {P:Program}{H:AHeap}{t:TypeId}{id off:Nat}:loadF P H t id off=loadAt P H t id off:=by
 unfold loadF
 cases hg:isAggB P t with
 | none=>simp [loadAt,hg]
 | some g =>
  cases g with
  | true=>rfl
  | false =>
   simp only[loadAt,hg]
   cases H.get id with
   | none=>rfl
   | some b=>exact cellF_eq b off
theorem single_ok {v:AV}(h:single v=true):v.cells=[v]∧v.isRaw=false∧v.one=true:=by
 cases v <;> first | exact⟨rfl,rfl,rfl⟩ | simp [single] at h
theorem storeF_eq {P:Program}{G:Ctx}{H:AHeap}{t:TypeId}{id off:Nat}{v:AV}:storeF P G H t id off v=slowStore P G H t id off v:=by
 unfold storeF
 cases hs:single v with
 | false=>rfl
 | true =>
  cases ho:isOneB P t with
  | false=>rfl
  | true =>
   obtain⟨h1,h2,h3⟩:=single_ok hs
   have hz:sizeB P t=some 1:=by
    unfold isOneB at ho
    cases hz:sizeB P t with
    | none=>rw[hz] at ho; simp at ho
    | some n=>rw[hz] at ho; rw[Nat.eq_of_beq_eq_true ho]
   simp only
   cases hg:H.get id with
   | none=>simp [slowStore,storeAt,h2,hz,hg]
   | some b =>
    simp only[setCellF_eq]
    cases hc:b.setCell off v with
    | none=>rfl
    | some b' =>
     have hrw:b.rw=true:=by
      cases b <;> simp only[AB.setCell] at hc <;> first | rfl | (simp at hc; done)
     simp [slowStore,storeAt,h2,hz,h1,storeN,h3,hg,hc,hrw]
theorem opF_eq {P:Program}{G:Ctx}{H:AHeap}{ev:Operand→AV}{op:Op}:opF P G H ev op=opA P G H ev op:=by
 cases op with
 | load t a =>
  show onPtr (ev a) (fun id off => onLit off (fun o => @Option.rec AV (fun _ => AOut) (opA P G H ev (.load t a)) (fun v => valF G v) (loadF P H t id o)) (opA P G H ev (.load t a))) (.fail "load from where") = _
  simp only[loadF_eq,valF_eq]
  cases hv:ev a with
  | ptr id off =>
   cases off with
   | lit n=>cases n with
    | ofNat m =>
     show @Option.rec AV (fun _=>AOut) (opA P G H ev (.load t a)) (fun v=>valA G v) (loadAt P H t id m)=_
     cases hl:loadAt P H t id m with
     | none=>rfl
     | some v=>simp only; unfold opA; simp only[hv,hl]
    | negSucc m=>rfl
   | _=>rfl
  | _=>unfold opA; simp only[hv]; rfl
 | store t a x =>
  show onPtr (ev a) (fun id off => onLit off (fun o => storeF P G H t id o (ev x)) (opA P G H ev (.store t a x))) (.fail "store where") = _
  simp only[storeF_eq]
  cases hv:ev a with
  | ptr id off =>
   cases off with
   | lit n=>cases n with
    | ofNat m=>unfold opA; simp only[hv]; rfl
    | negSucc m=>rfl
   | _=>rfl
  | _=>unfold opA; simp only[hv]; rfl
 | binOp o t x y u =>
  show onInt (ev x) (fun k a=>onInt (ev y) (fun l b=>binF G o k a l b) (opA P G H ev (.binOp o t x y u))) (opA P G H ev (.binOp o t x y u))=_
  rw[onInt_eq]
  split
  ·rename_i k a hx
   rw[onInt_eq]
   split
   ·rename_i l b hy
    unfold opA
    simp only[hx,hy]
    rfl
   ·rfl
  ·rfl
 | fieldAddr s x f =>
  show @Option.rec Nat (fun _ => AOut) (opA P G H ev (.fieldAddr s x f)) (fun n => onPtr (ev x) (fun id off => .val (.ptr id (mkAdd off (.lit n)))) (.fail "fieldAddr")) (fieldOff P s f) = _
  cases hf:fieldOff P s f with
  | none=>rfl
  | some n =>
   unfold fieldOff at hf
   split at hf
   ·rename_i fs hu
    split at hf
    ·rename_i fd hfd
     split at hf
     ·rename_i m hz
      simp at hf; subst hf
      unfold opA
      simp only[hu]
      cases ev x with
      | ptr id off=>simp only[hfd,hz]; rfl
      | _=>rfl
     ·simp at hf
    ·simp at hf
   ·simp at hf
 | indexAddr t x i =>
  show onInt (ev i) (fun _ n => indexAddrA P G H t (ev x) n) (.fail "indexAddr") = _
  unfold opA
  dsimp only
  cases ev i <;> rfl
 | call c=>obtain⟨callee,args,ts⟩:=c; cases callee <;> rfl
 | _=>rfl
theorem runOpF_eq {P:Program}{G:Ctx}{H:AHeap}{size:Nat}{ops:Array Oper}{tm:Tr AV}{o:Oper}:runOpF P G H size ops tm o=runOp P G H size ops tm o:=by
 unfold runOpF runOp
 simp only[opF_eq]
 rw[readsOkF_eq]
 cases readsOk size ops o with
 | false=>rfl
 | true =>
  simp only[if_true]
  cases h:o.guard with
  | none=>simp [wantedA,h]
  | some p=>rfl
theorem finishF_eq {P:Program}{G:Ctx}{H:AHeap}{fr:AFrame}{v:AV}:finishF P G H fr v=finishA P G H fr v:=by
 obtain⟨fn,tmps,size,reg,todo,defers,ret,dfd,round⟩:=fr
 unfold finishF finishA
 cases reg with
 | none=>cases todo with
  | nil=>rfl
  | cons x k=>cases x <;> rfl
 | seq ops i rest =>
  cases rest with
  | nil=>rfl
  | cons o r =>
   simp only[putDst]
   cases o.dst with
   | none=>rfl
   | some d =>
    simp only[natBlt]
    by_cases h:d<size
    ·simp [h]
    ·simp [h]
 | any ops undone pre =>
  cases undone with
  | nil=>rfl
  | cons p u =>
   obtain⟨i,o⟩:=p
   simp only
   cases putDst size tmps o.dst v with
   | none=>rfl
   | some tm =>
    simp only
    cases checkPre P G H size ops tm (pre.filter fun p=>!(maskOf ops i).testBit p.1) <;> rfl
def seqF (P:Program) (G:Ctx) (callers:List AFrame) (heap:AHeap) (fn:FuncId) (tmps:Tr AV) (size:Nat) (ops:Array Oper) (i:Nat) (rest:List Oper) (todo:List AItem) (defers:List ADef) (dfd:Bool) (round:Option Nat):Out :=
 @List.rec Oper (fun _=>Out) (.next ⟨⟨fn,tmps,size,.none,todo,defers,false,dfd,round⟩,callers,heap⟩)
  (fun o rest' _=>@AOut.rec (fun _=>Out)
   (fun v=>@Option.rec Tmp (fun _=>Out) (.next ⟨⟨fn,tmps,size,.seq ops (i+1) rest',todo,defers,false,dfd,round⟩,callers,heap⟩)
    (fun d => @Bool.rec (fun _ => Out) (.fail "finish") (.next ⟨⟨fn, tmps.set d v, size, .seq ops (i + 1) rest', todo, defers, false, dfd, round⟩, callers, heap⟩) (Nat.blt d size)) o.dst)
   (fun v H=>@Option.rec Tmp (fun _=>Out) (.next ⟨⟨fn,tmps,size,.seq ops (i+1) rest',todo,defers,false,dfd,round⟩,callers,H⟩)
    (fun d => @Bool.rec (fun _ => Out) (.fail "finish") (.next ⟨⟨fn, tmps.set d v, size, .seq ops (i + 1) rest', todo, defers, false, dfd, round⟩, callers, H⟩) (Nat.blt d size)) o.dst)
   (fun f args => @Option.rec AFrame (fun _ => Out) (.fail "enter") (fun g => .next ⟨g, ⟨fn, tmps, size, .seq ops i (o :: rest'), todo, defers, false, dfd, round⟩ :: callers, heap⟩) (enterFrame P f args false))
   (fun l args=>applyOut P G ⟨⟨fn,tmps,size,.seq ops i (o::rest'),todo,defers,false,dfd,round⟩,callers,heap⟩ ⟨fn,tmps,size,.seq ops i (o::rest'),todo,defers,false,dfd,round⟩ (.round l args))
   (fun b=>.fork b) (fun w=>.fail w) (fun d=>applyOut P G ⟨⟨fn,tmps,size,.seq ops i (o::rest'),todo,defers,false,dfd,round⟩,callers,heap⟩ ⟨fn,tmps,size,.seq ops i (o::rest'),todo,defers,false,dfd,round⟩ (.defer d))
   (runOpF P G heap size ops tmps o)) rest
def resultF (P:Program) (H:AHeap) (fn:FuncId) (size:Nat) (tmps:Tr AV):Option AV :=
 match P.funcs[fn]? with
 | none=>none
 | some f=>match allA P H size tmps f.results.toList with
  | some [v]=>some v
  | some l=>some (.tuple l)
  | none=>none
def retF (P:Program) (G:Ctx) (callers:List AFrame) (heap:AHeap) (fn:FuncId) (tmps:Tr AV) (size:Nat) (reg:AReg) (todo:List AItem) (defers:List ADef) (dfd:Bool) (round:Option Nat):Out :=
 match defers with
 | []=>@Bool.rec (fun _=>Out) (match resultF P heap fn size tmps with
   | some v=>match callers with
    | []=>.done v heap
    | g::rest=>match finishF P G heap g v with
     | some g'=>.next ⟨g',rest,heap⟩
     | none => .fail "finish"
   | none => .fail "result") (stepA P G ⟨⟨fn, tmps, size, reg, todo, [], true, dfd, round⟩, callers, heap⟩) dfd
 | d::ds=>stepA P G ⟨⟨fn,tmps,size,reg,todo,d::ds,true,dfd,round⟩,callers,heap⟩
def onBool (v:AV) (k:SB→Out) (d:Out):Out:=@AV.rec (fun _=>(SB→Out)→Out→Out) (fun _=>PUnit)
  (fun s k _=>k s) (fun _ _=>fun _ d=>d) (fun _=>fun _ d=>d) (fun _ d=>d) (fun _ _=>fun _ d=>d) (fun _ d=>d) (fun _ _ _ _=>fun _ d=>d) (fun _ _ _ _=>fun _ d=>d) (fun _=>fun _ d=>d) (fun _ d=>d) (fun _=>fun _ d=>d) (fun _ d=>d) (fun _=>fun _ d=>d) (fun _ _ _ _ _=>fun _ d=>d) (fun _=>fun _ d=>d) (fun _ d=>d) (fun _ _ _=>fun _ d=>d) (fun _ d=>d) (fun _ _=>fun _ d=>d) (fun _ _=>fun _ d=>d) (fun _=>fun _ d=>d) (fun _ d=>d) (fun _ _ _=>fun _ d=>d) (fun _ _ _ _ _=>fun _ d=>d) PUnit.unit (fun _ _ _ _=>PUnit.unit) v k d
def condF (x:Operand) (a b:Code) (P:Program) (G:Ctx) (callers:List AFrame) (heap:AHeap) (fn:FuncId) (tmps:Tr AV) (size:Nat) (k:List AItem) (defers:List ADef) (dfd:Bool) (round:Option Nat):Out :=
 @Bool.rec (fun _ => Out) (.fail "cond") (onBool (evalA tmps x) (fun s => @Option.rec Bool (fun _ => Out) (.fork (s.atom G)) (fun t => .next ⟨⟨fn, tmps, size, .none, .code (@Bool.rec (fun _ => Code) b a t) :: k, defers, false, dfd, round⟩, callers, heap⟩) (s.know G)) (.fail "cond")) (okRead size x)
def codeF (P:Program) (G:Ctx) (callers:List AFrame) (heap:AHeap) (fn:FuncId) (tmps:Tr AV) (size:Nat) (c:Code) (k:List AItem) (defers:List ADef) (dfd:Bool) (round:Option Nat):Out:=@Code.rec (fun _=>Program→Ctx→List AFrame→AHeap→FuncId→Tr AV→Nat→List AItem→List ADef→Bool→Option Nat→Out)
 (fun P G callers heap fn tmps size k defers dfd round=>.next ⟨⟨fn,tmps,size,.none,k,defers,false,dfd,round⟩,callers,heap⟩)
 (fun id ops draw P G callers heap fn tmps size k defers dfd round => @Bool.rec (fun _ => Out) (.next ⟨⟨fn, tmps, size, .seq ops 0 ops.toList, k, defers, false, dfd, round⟩, callers, heap⟩) (@Bool.rec (fun _ => Out) (.fail "edges") (.next ⟨⟨fn, tmps, size, .any ops (ops.toList.zipIdx.map fun p => (p.2, p.1)) [], k, defers, false, dfd, round⟩, callers, heap⟩) (okEdges ops)) draw)
 (fun a b _ _ P G callers heap fn tmps size k defers dfd round=>.next ⟨⟨fn,tmps,size,.none,.code a::.code b::k,defers,false,dfd,round⟩,callers,heap⟩)
 (fun x a b _ _ P G callers heap fn tmps size k defers dfd round=>condF x a b P G callers heap fn tmps size k defers dfd round)
 (fun id body _ P G callers heap fn tmps size k defers dfd round=>.next ⟨⟨fn,tmps,size,.none,.code body::.inBlock id::k,defers,false,dfd,round⟩,callers,heap⟩)
 (fun body _ P G callers heap fn tmps size k defers dfd round=>.next ⟨⟨fn,tmps,size,.none,.code body::.inLoop body::k,defers,false,dfd,round⟩,callers,heap⟩)
 (fun x ps asg body _ _ P G callers heap fn tmps size k defers dfd round=>stepA P G ⟨⟨fn,tmps,size,.none,.code (.rangeFunc x ps asg body)::k,defers,false,dfd,round⟩,callers,heap⟩)
 (fun id P G callers heap fn tmps size k defers dfd round=>@Option.rec (List AItem) (fun _=>Out) (leaveA P G ⟨⟨fn,tmps,size,.none,.code (.exit id)::k,defers,false,dfd,round⟩,callers,heap⟩ (some (.exit id))) (fun k2=>.next ⟨⟨fn,tmps,size,.none,k2,defers,false,dfd,round⟩,callers,heap⟩) (exitA id k))
 (fun body _ P G callers heap fn tmps size k defers dfd round=>.next ⟨⟨fn,tmps,size,.none,.code body::.inScope body::k,defers,false,dfd,round⟩,callers,heap⟩)
 (fun l P G callers heap fn tmps size k defers dfd round=>.next ⟨⟨fn,tmps,size,.none,k,defers,false,dfd,round⟩,callers,heap⟩)
 (fun l P G callers heap fn tmps size k defers dfd round=>stepA P G ⟨⟨fn,tmps,size,.none,.code (.goto l)::k,defers,false,dfd,round⟩,callers,heap⟩)
 (fun P G callers heap fn tmps size k defers dfd round=>@Option.rec Nat (fun _=>Out) (.next ⟨⟨fn,tmps,size,.none,.code .ret::k,defers,true,dfd,none⟩,callers,heap⟩) (fun r=>stepA P G ⟨⟨fn,tmps,size,.none,.code .ret::k,defers,false,dfd,some r⟩,callers,heap⟩) round)
 (fun w P G callers heap fn tmps size k defers dfd round=>stepA P G ⟨⟨fn,tmps,size,.none,.code (.refuse w)::k,defers,false,dfd,round⟩,callers,heap⟩)
 c P G callers heap fn tmps size k defers dfd round
def ctlF (P:Program) (G:Ctx) (callers:List AFrame) (heap:AHeap) (fn:FuncId) (tmps:Tr AV) (size:Nat) (todo:List AItem) (defers:List ADef) (dfd:Bool) (round:Option Nat):Out :=
 @List.rec AItem (fun _=>Out) (stepA P G ⟨⟨fn,tmps,size,.none,[],defers,false,dfd,round⟩,callers,heap⟩)
  (fun it k _=>@AItem.rec (fun _=>Out)
   (fun c=>codeF P G callers heap fn tmps size c k defers dfd round)
   (fun _=>.next ⟨⟨fn,tmps,size,.none,k,defers,false,dfd,round⟩,callers,heap⟩)
   (fun b=>.next ⟨⟨fn,tmps,size,.none,.code b::.inLoop b::k,defers,false,dfd,round⟩,callers,heap⟩)
   (fun _=>.next ⟨⟨fn,tmps,size,.none,k,defers,false,dfd,round⟩,callers,heap⟩)
   (fun l=>stepA P G ⟨⟨fn,tmps,size,.none,.inRangeFunc l::k,defers,false,dfd,round⟩,callers,heap⟩)
   (fun l=>stepA P G ⟨⟨fn,tmps,size,.none,.endRangeFunc l::k,defers,false,dfd,round⟩,callers,heap⟩)
   (stepA P G ⟨⟨fn,tmps,size,.none,.beginRound::k,defers,false,dfd,round⟩,callers,heap⟩)
   it) todo
def anyF (P:Program) (G:Ctx) (callers:List AFrame) (heap:AHeap) (fn:FuncId) (tmps:Tr AV) (size:Nat) (ops:Array Oper) (undone pre:List (Nat × Oper)) (todo:List AItem) (defers:List ADef) (dfd:Bool) (round:Option Nat):Out :=
 match undone with
 | []=>.next ⟨⟨fn,tmps,size,.none,todo,defers,false,dfd,round⟩,callers,heap⟩
 | (i,o)::u=>match runOpF P G heap size ops tmps o with
  | .val v=>@Bool.rec (fun _=>Out) (stepA P G ⟨⟨fn,tmps,size,.any ops ((i,o)::u) pre,todo,defers,false,dfd,round⟩,callers,heap⟩)
    (match putDst size tmps o.dst v with
    | some tm=>.next ⟨⟨fn,tm,size,.any ops (u.filter (fun p=>!Nat.beq p.1 i)) ((i,o)::pre),todo,defers,false,dfd,round⟩,callers,heap⟩
    | none => .fail "region") (mayFloat ops pre i o)
  | _=>stepA P G ⟨⟨fn,tmps,size,.any ops ((i,o)::u) pre,todo,defers,false,dfd,round⟩,callers,heap⟩
section
variable {P:Program} {G:Ctx} {callers:List AFrame} {heap:AHeap} {fn:FuncId} {tmps:Tr AV} {size:Nat} {todo:List AItem} {defers:List ADef} {dfd:Bool} {round:Option Nat}
theorem retF_eq {reg:AReg}:retF P G callers heap fn tmps size reg todo defers dfd round=stepA P G ⟨⟨fn,tmps,size,reg,todo,defers,true,dfd,round⟩,callers,heap⟩:=by
 cases defers with
 | cons d ds=>rfl
 | nil =>
  unfold retF stepA
  simp only[if_true]
  cases dfd with
  | true=>rfl
  | false =>
   simp only[Bool.false_eq_true,if_false]
   have e:resultF P heap fn size tmps=resultA P heap ⟨fn,tmps,size,reg,todo,[],true,false,round⟩:=rfl
   rw[e]
   cases resultA P heap ⟨fn,tmps,size,reg,todo,[],true,false,round⟩ with
   | none=>rfl
   | some v =>
    simp only[handBack]
    cases callers with
    | nil=>rfl
    | cons g rest=>simp only[finishF_eq]; cases finishA P G heap g v <;> rfl
theorem codeF_eq {c:Code}{k:List AItem}:codeF P G callers heap fn tmps size c k defers dfd round=stepA P G ⟨⟨fn,tmps,size,.none,.code c::k,defers,false,dfd,round⟩,callers,heap⟩:=by
 cases c with
 | cond x a b =>
  show condF x a b P G callers heap fn tmps size k defers dfd round=_
  unfold condF stepA
  simp only[Bool.false_eq_true,if_false,okRead_eq]
  cases okIn size x with
  | false=>rfl
  | true =>
   simp only[if_true]
   cases evalA tmps x with
   | bool s =>
    show @Option.rec Bool (fun _=>Out) (.fork (s.atom G)) (fun t=>.next ⟨⟨fn,tmps,size,.none,.code (@Bool.rec (fun _=>Code) b a t)::k,defers,false,dfd,round⟩,callers,heap⟩) (s.know G)=_
    simp only
    cases s.know G with
    | none=>rfl
    | some t=>cases t <;> rfl
   | _=>rfl
 | region id ops draw =>
  cases draw with
  | false=>rfl
  | true =>
   show @Bool.rec (fun _ => Out) (.fail "edges") (.next ⟨⟨fn, tmps, size, .any ops (ops.toList.zipIdx.map fun p => (p.2, p.1)) [], k, defers, false, dfd, round⟩, callers, heap⟩) (okEdges ops) = _
   unfold stepA
   simp only[Bool.false_eq_true,if_false]
   cases okEdges ops <;> simp
 | ret=>cases round <;> rfl
 | exit id =>
  show @Option.rec (List AItem) (fun _=>Out) (leaveA P G ⟨⟨fn,tmps,size,.none,.code (.exit id)::k,defers,false,dfd,round⟩,callers,heap⟩ (some (.exit id))) (fun k2=>.next ⟨⟨fn,tmps,size,.none,k2,defers,false,dfd,round⟩,callers,heap⟩) (exitA id k)=_
  unfold stepA
  simp only[Bool.false_eq_true,if_false]
  cases exitA id k <;> rfl
 | _=>rfl
theorem ctlF_eq:ctlF P G callers heap fn tmps size todo defers dfd round=stepA P G ⟨⟨fn,tmps,size,.none,todo,defers,false,dfd,round⟩,callers,heap⟩:=by
 cases todo with
 | nil=>rfl
 | cons it k =>
  cases it with
  | code c=>exact codeF_eq
  | _=>rfl
theorem seqF_eq {ops:Array Oper}{i:Nat}{rest:List Oper}:seqF P G callers heap fn tmps size ops i rest todo defers dfd round=stepA P G ⟨⟨fn,tmps,size,.seq ops i rest,todo,defers,false,dfd,round⟩,callers,heap⟩:=by
 cases rest with
 | nil=>rfl
 | cons o rest' =>
  unfold stepA
  simp only[Bool.false_eq_true,if_false]
  unfold seqF
  simp only[runOpF_eq]
  cases runOp P G heap size ops tmps o with
  | val v =>
   simp only[applyOut,finishA,putDst]
   cases o.dst with
   | none=>rfl
   | some d=>simp only[natBlt]; by_cases h:d<size <;> simp [h]
  | eff v H =>
   simp only[applyOut,finishA,putDst]
   cases o.dst with
   | none=>rfl
   | some d=>simp only[natBlt]; by_cases h:d<size <;> simp [h]
  | enter f args =>
   simp only[applyOut]
   cases enterFrame P f args false <;> rfl
  | round l args=>rfl
  | fork b=>rfl
  | fail w=>rfl
  | defer d=>rfl
end
def seqRun (P:Program) (G:Ctx) (callers:List AFrame) (fn:FuncId) (size:Nat) (ops:Array Oper) (todo:List AItem) (defers:List ADef) (dfd:Bool) (round:Option Nat) (rest:List Oper):Nat→Tr AV→AHeap→Out :=
 @List.rec Oper (fun _=>Nat→Tr AV→AHeap→Out) (fun _ tm heap=>.next ⟨⟨fn,tm,size,.none,todo,defers,false,dfd,round⟩,callers,heap⟩)
  (fun o rest' ih i tm heap=>@AOut.rec (fun _=>Out)
   (fun v => @Option.rec Tmp (fun _ => Out) (ih (i + 1) tm heap) (fun d => @Bool.rec (fun _ => Out) (.fail "finish") (ih (i + 1) (tm.set d v) heap) (Nat.blt d size)) o.dst)
   (fun v H => @Option.rec Tmp (fun _ => Out) (ih (i + 1) tm H) (fun d => @Bool.rec (fun _ => Out) (.fail "finish") (ih (i + 1) (tm.set d v) H) (Nat.blt d size)) o.dst)
   (fun f args => @Option.rec AFrame (fun _ => Out) (.fail "enter") (fun g => .next ⟨g, ⟨fn, tm, size, .seq ops i (o :: rest'), todo, defers, false, dfd, round⟩ :: callers, heap⟩) (enterFrame P f args false))
   (fun l args=>applyOut P G ⟨⟨fn,tm,size,.seq ops i (o::rest'),todo,defers,false,dfd,round⟩,callers,heap⟩ ⟨fn,tm,size,.seq ops i (o::rest'),todo,defers,false,dfd,round⟩ (.round l args))
   (fun b=>.fork b) (fun w=>.fail w) (fun d=>applyOut P G ⟨⟨fn,tm,size,.seq ops i (o::rest'),todo,defers,false,dfd,round⟩,callers,heap⟩ ⟨fn,tm,size,.seq ops i (o::rest'),todo,defers,false,dfd,round⟩ (.defer d))
   (runOpF P G heap size ops tm o)) rest
def codeRun (P:Program) (G:Ctx) (callers:List AFrame) (heap:AHeap) (fn:FuncId) (tmps:Tr AV) (size:Nat) (c:Code) (k:List AItem) (defers:List ADef) (dfd:Bool) (round:Option Nat):Out:=@Code.rec (fun _=>Program→Ctx→List AFrame→AHeap→FuncId→Tr AV→Nat→List AItem→List ADef→Bool→Option Nat→Out)
 (fun P G callers heap fn tmps size k defers dfd round=>.next ⟨⟨fn,tmps,size,.none,k,defers,false,dfd,round⟩,callers,heap⟩)
 (fun id ops draw P G callers heap fn tmps size k defers dfd round => @Bool.rec (fun _ => Out) (seqRun P G callers fn size ops k defers dfd round ops.toList 0 tmps heap) (@Bool.rec (fun _ => Out) (.fail "edges") (.next ⟨⟨fn, tmps, size, .any ops (ops.toList.zipIdx.map fun p => (p.2, p.1)) [], k, defers, false, dfd, round⟩, callers, heap⟩) (okEdges ops)) draw)
 (fun a b iha _ P G callers heap fn tmps size k defers dfd round=>iha P G callers heap fn tmps size (.code b::k) defers dfd round)
 (fun x a b iha ihb P G callers heap fn tmps size k defers dfd round => @Bool.rec (fun _ => Out) (.fail "cond") (onBool (evalA tmps x) (fun s => @Option.rec Bool (fun _ => Out) (.fork (s.atom G)) (fun t => @Bool.rec (fun _ => Out) (ihb P G callers heap fn tmps size (k) defers dfd round) (iha P G callers heap fn tmps size (k) defers dfd round) t) (s.know G)) (.fail "cond")) (okRead size x))
 (fun id body ihb P G callers heap fn tmps size k defers dfd round=>ihb P G callers heap fn tmps size (.inBlock id::k) defers dfd round)
 (fun body _ P G callers heap fn tmps size k defers dfd round=>.next ⟨⟨fn,tmps,size,.none,.code (.loop body)::k,defers,false,dfd,round⟩,callers,heap⟩)
 (fun x ps asg body _ _ P G callers heap fn tmps size k defers dfd round=>stepA P G ⟨⟨fn,tmps,size,.none,.code (.rangeFunc x ps asg body)::k,defers,false,dfd,round⟩,callers,heap⟩)
 (fun id P G callers heap fn tmps size k defers dfd round=>@Option.rec (List AItem) (fun _=>Out) (leaveA P G ⟨⟨fn,tmps,size,.none,.code (.exit id)::k,defers,false,dfd,round⟩,callers,heap⟩ (some (.exit id))) (fun k2=>.next ⟨⟨fn,tmps,size,.none,k2,defers,false,dfd,round⟩,callers,heap⟩) (exitA id k))
 (fun body ihb P G callers heap fn tmps size k defers dfd round=>ihb P G callers heap fn tmps size (.inScope body::k) defers dfd round)
 (fun l P G callers heap fn tmps size k defers dfd round=>.next ⟨⟨fn,tmps,size,.none,k,defers,false,dfd,round⟩,callers,heap⟩)
 (fun l P G callers heap fn tmps size k defers dfd round=>stepA P G ⟨⟨fn,tmps,size,.none,.code (.goto l)::k,defers,false,dfd,round⟩,callers,heap⟩)
 (fun P G callers heap fn tmps size k defers dfd round=>@Option.rec Nat (fun _=>Out) (retF P G callers heap fn tmps size .none (.code .ret::k) defers dfd none) (fun r=>stepA P G ⟨⟨fn,tmps,size,.none,.code .ret::k,defers,false,dfd,some r⟩,callers,heap⟩) round)
 (fun w P G callers heap fn tmps size k defers dfd round=>stepA P G ⟨⟨fn,tmps,size,.none,.code (.refuse w)::k,defers,false,dfd,round⟩,callers,heap⟩)
 c P G callers heap fn tmps size k defers dfd round
def loopOf (c:Code):Option Code:=@Code.rec (fun _=>Option Code) none (fun _ _ _=>none) (fun _ _ _ _=>none) (fun _ _ _ _ _=>none) (fun _ _ _=>none) (fun b _=>some b)
 (fun _ _ _ _ _ _=>none) (fun _=>none) (fun _ _=>none) (fun _=>none) (fun _=>none) none (fun _=>none) c
def ctlRun (P:Program) (G:Ctx) (callers:List AFrame) (heap:AHeap) (fn:FuncId) (tmps:Tr AV) (size:Nat) (todo:List AItem) (defers:List ADef) (dfd:Bool) (round:Option Nat):Out :=
 @List.rec AItem (fun _=>Out) (stepA P G ⟨⟨fn,tmps,size,.none,[],defers,false,dfd,round⟩,callers,heap⟩)
  (fun it k ih=>@AItem.rec (fun _=>Out)
   (fun c=>@Option.rec Code (fun _=>Out) (codeRun P G callers heap fn tmps size c k defers dfd round) (fun b=>codeRun P G callers heap fn tmps size b (.inLoop b::k) defers dfd round) (loopOf c))
   (fun _=>ih)
   (fun b=>codeRun P G callers heap fn tmps size b (.inLoop b::k) defers dfd round)
   (fun _=>ih)
   (fun l=>stepA P G ⟨⟨fn,tmps,size,.none,.inRangeFunc l::k,defers,false,dfd,round⟩,callers,heap⟩)
   (fun l=>stepA P G ⟨⟨fn,tmps,size,.none,.endRangeFunc l::k,defers,false,dfd,round⟩,callers,heap⟩)
   (stepA P G ⟨⟨fn,tmps,size,.none,.beginRound::k,defers,false,dfd,round⟩,callers,heap⟩)
   it) todo
section
variable {P:Program} {S:Start} {E:Env} {G:Ctx} {w:World} {f:Frame} {fs:List Frame} {callers:List AFrame} {heap:AHeap} {fn:FuncId} {tmps:Tr AV} {size:Nat} {todo:List AItem} {defers:List ADef} {dfd:Bool} {round:Option Nat}
theorem seqRun_ok (hP:P.follows .mixedOrders=true) {ops:Array Oper}:∀ (rest:List Oper) {i:Nat}{tmps:Tr AV}{heap:AHeap}{E:Env}{f:Frame}{fs:List Frame}{w:World},G.Ok E →
  MRel P S E ⟨⟨fn,tmps,size,.seq ops i rest,todo,defers,false,dfd,round⟩,callers,heap⟩ f fs w→OutSpec P S E (lone f (fs++S.cs) w) (seqRun P G callers fn size ops todo defers dfd round rest i tmps heap)
 | [],_,_,_,_,_,_,_,hG,h=>stepA_ok hP hG h
 | o::rest,i,tmps,heap,E,f,fs,w,hG,h=>by
  have hA:=stepA_ok hP hG h
  rw[← seqF_eq] at hA
  unfold seqF at hA
  unfold seqRun
  simp only at hA ⊢
  cases hr:runOpF P G heap size ops tmps o with
  | val v =>
   rw[hr] at hA
   simp only at hA ⊢
   cases hd:o.dst with
   | none =>
    rw[hd] at hA
    obtain⟨E',f',fs',w',h1,h2,h3⟩:=hA
    exact(seqRun_ok hP rest (hG.le h1) h3).lift h1 h2
   | some d =>
    rw[hd] at hA
    simp only at hA ⊢
    cases hb:Nat.blt d size with
    | false=>trivial
    | true =>
     rw[hb] at hA
     obtain⟨E',f',fs',w',h1,h2,h3⟩:=hA
     exact(seqRun_ok hP rest (hG.le h1) h3).lift h1 h2
  | eff v H =>
   rw[hr] at hA
   simp only at hA ⊢
   cases hd:o.dst with
   | none =>
    rw[hd] at hA
    obtain⟨E',f',fs',w',h1,h2,h3⟩:=hA
    exact(seqRun_ok hP rest (hG.le h1) h3).lift h1 h2
   | some d =>
    rw[hd] at hA
    simp only at hA ⊢
    cases hb:Nat.blt d size with
    | false=>trivial
    | true =>
     rw[hb] at hA
     obtain⟨E',f',fs',w',h1,h2,h3⟩:=hA
     exact(seqRun_ok hP rest (hG.le h1) h3).lift h1 h2
  | enter g args=>rw[hr] at hA; exact hA
  | round l args=>rw[hr] at hA; exact hA
  | fork b=>trivial
  | fail s=>trivial
  | defer d=>rw[hr] at hA; exact hA
theorem codeRun_ok (hP:P.follows .mixedOrders=true) (c:Code):∀ {k:List AItem}{E:Env}{f:Frame}{fs:List Frame}{w:World},G.Ok E →
  MRel P S E ⟨⟨fn,tmps,size,.none,.code c::k,defers,false,dfd,round⟩,callers,heap⟩ f fs w→OutSpec P S E (lone f (fs++S.cs) w) (codeRun P G callers heap fn tmps size c k defers dfd round):=by
 induction c with
 | seq a b iha ihb =>
  intro k E f fs w hG h
  have hA:OutSpec P S E (lone f (fs++S.cs) w) (.next ⟨⟨fn,tmps,size,.none,.code a::.code b::k,defers,false,dfd,round⟩,callers,heap⟩):=stepA_ok hP hG h
  obtain⟨E',f',fs',w',h1,h2,h3⟩:=hA
  exact(iha (hG.le h1) h3).lift h1 h2
 | block id body ih =>
  intro k E f fs w hG h
  have hA:OutSpec P S E (lone f (fs++S.cs) w) (.next ⟨⟨fn,tmps,size,.none,.code body::.inBlock id::k,defers,false,dfd,round⟩,callers,heap⟩):=stepA_ok hP hG h
  obtain⟨E',f',fs',w',h1,h2,h3⟩:=hA
  exact(ih (hG.le h1) h3).lift h1 h2
 | loop body ih =>
  intro k E f fs w hG h
  exact⟨E,f,fs,w,Env.le.refl E,Steps.refl P _,h⟩
 | scope body ih =>
  intro k E f fs w hG h
  have hA:OutSpec P S E (lone f (fs++S.cs) w) (.next ⟨⟨fn,tmps,size,.none,.code body::.inScope body::k,defers,false,dfd,round⟩,callers,heap⟩):=stepA_ok hP hG h
  obtain⟨E',f',fs',w',h1,h2,h3⟩:=hA
  exact(ih (hG.le h1) h3).lift h1 h2
 | cond x a b iha ihb =>
  intro k E f fs w hG h
  have hA:=stepA_ok hP hG h
  rw[← codeF_eq] at hA
  change OutSpec P S E (lone f (fs++S.cs) w) (condF x a b P G callers heap fn tmps size k defers dfd round) at hA
  unfold condF at hA
  show OutSpec P S E (lone f (fs ++ S.cs) w) (@Bool.rec (fun _ => Out) (.fail "cond") (onBool (evalA tmps x) (fun s => @Option.rec Bool (fun _ => Out) (.fork (s.atom G)) (fun t => @Bool.rec (fun _ => Out) (codeRun P G callers heap fn tmps size b k defers dfd round) (codeRun P G callers heap fn tmps size a k defers dfd round) t) (s.know G)) (.fail "cond")) (okRead size x))
  cases hx:okRead size x with
  | false=>trivial
  | true =>
   rw[hx] at hA
   simp only at hA ⊢
   cases hv:evalA tmps x with
   | bool s =>
    rw[hv] at hA
    change OutSpec P S E _ (@Option.rec Bool (fun _=>Out) _ _ (s.know G)) at hA
    show OutSpec P S E _ (@Option.rec Bool (fun _=>Out) _ _ (s.know G))
    cases hk:s.know G with
    | none=>trivial
    | some t =>
     rw[hk] at hA
     cases t with
     | false =>
      obtain⟨E',f',fs',w',h1,h2,h3⟩:=hA
      exact(ihb (hG.le h1) h3).lift h1 h2
     | true =>
      obtain⟨E',f',fs',w',h1,h2,h3⟩:=hA
      exact(iha (hG.le h1) h3).lift h1 h2
   | _=>trivial
 | region id ops draw =>
  intro k E f fs w hG h
  have hA:=stepA_ok hP hG h
  rw[← codeF_eq] at hA
  cases draw with
  | true=>exact hA
  | false =>
   obtain⟨E',f',fs',w',h1,h2,h3⟩:=hA
   exact(seqRun_ok hP _ (hG.le h1) h3).lift h1 h2
 | ret =>
  intro k E f fs w hG h
  have hA:=stepA_ok hP hG h
  cases round with
  | some r=>exact hA
  | none =>
   obtain⟨E',f',fs',w',h1,h2,h3⟩:=hA
   have hB:=stepA_ok hP (hG.le h1) h3
   rw[← retF_eq] at hB
   exact hB.lift h1 h2
 | exit id=>intro k E f fs w hG h; have hA:=stepA_ok hP hG h; rw[← codeF_eq] at hA; exact hA
 | _=>intro k E f fs w hG h; exact stepA_ok hP hG h
theorem ctlRun_ok (hP:P.follows .mixedOrders=true):∀ (todo:List AItem) {E:Env}{f:Frame}{fs:List Frame}{w:World},G.Ok E →
  MRel P S E ⟨⟨fn,tmps,size,.none,todo,defers,false,dfd,round⟩,callers,heap⟩ f fs w→OutSpec P S E (lone f (fs++S.cs) w) (ctlRun P G callers heap fn tmps size todo defers dfd round)
 | [],_,_,_,_,hG,h=>stepA_ok hP hG h
 | it::k,E,f,fs,w,hG,h=>by
  have hA:=stepA_ok hP hG h
  cases it with
  | code c =>
   show OutSpec P S E (lone f (fs++S.cs) w) (@Option.rec Code (fun _=>Out) (codeRun P G callers heap fn tmps size c k defers dfd round) (fun b=>codeRun P G callers heap fn tmps size b (.inLoop b::k) defers dfd round) (loopOf c))
   cases hc:loopOf c with
   | none=>exact codeRun_ok hP c hG h
   | some b =>
    have e:c=.loop b:=by
     cases c <;> first | (simp only[loopOf] at hc; cases hc; rfl) | (simp [loopOf] at hc)
    subst e
    have hA:OutSpec P S E (lone f (fs++S.cs) w) (.next ⟨⟨fn,tmps,size,.none,.code b::.inLoop b::k,defers,false,dfd,round⟩,callers,heap⟩):=stepA_ok hP hG h
    obtain⟨E',f',fs',w',h1,h2,h3⟩:=hA
    exact(codeRun_ok hP b (hG.le h1) h3).lift h1 h2
  | inBlock id =>
   obtain⟨E',f',fs',w',h1,h2,h3⟩:=hA
   exact(ctlRun_ok hP k (hG.le h1) h3).lift h1 h2
  | inScope b =>
   obtain⟨E',f',fs',w',h1,h2,h3⟩:=hA
   exact(ctlRun_ok hP k (hG.le h1) h3).lift h1 h2
  | inLoop b =>
   obtain⟨E',f',fs',w',h1,h2,h3⟩:=hA
   exact(codeRun_ok hP b (hG.le h1) h3).lift h1 h2
  | _=>exact hA
end
def stepF (P:Program) (G:Ctx) (c:Cfg):Out :=
 @Cfg.rec (fun _=>Out) (fun fr callers heap=>@AFrame.rec (fun _=>Out) (fun fn tmps size reg todo defers returning dfd round =>
  @Bool.rec (fun _=>Out)
   (@AReg.rec (fun _=>Out) (ctlRun P G callers heap fn tmps size todo defers dfd round)
    (fun ops i rest=>seqRun P G callers fn size ops todo defers dfd round rest i tmps heap)
    (fun ops undone pre=>anyF P G callers heap fn tmps size ops undone pre todo defers dfd round) reg)
   (retF P G callers heap fn tmps size reg todo defers dfd round) returning) fr) c
theorem stepF_ok {P:Program}{S:Start}{E:Env}{G:Ctx}{w:World}(hP:P.follows .mixedOrders=true) (hG:G.Ok E) {c:Cfg}{f:Frame}{fs:List Frame}(h:MRel P S E c f fs w) :
  OutSpec P S E (lone f (fs++S.cs) w) (stepF P G c):=by
 have hA:=stepA_ok hP hG h
 obtain⟨⟨fn,tmps,size,reg,todo,defers,returning,dfd,round⟩,callers,heap⟩:=c
 cases returning with
 | true =>
  have e:stepF P G ⟨⟨fn,tmps,size,reg,todo,defers,true,dfd,round⟩,callers,heap⟩=stepA P G ⟨⟨fn,tmps,size,reg,todo,defers,true,dfd,round⟩,callers,heap⟩:=retF_eq
  rw[e]; exact hA
 | false =>
  cases reg with
  | none=>exact ctlRun_ok hP todo hG h
  | seq ops i rest=>exact seqRun_ok hP rest hG h
  | any ops undone pre =>
   show OutSpec P S E (lone f (fs++S.cs) w) (anyF P G callers heap fn tmps size ops undone pre todo defers dfd round)
   cases undone with
   | nil=>exact hA
   | cons p u =>
    obtain⟨i,o⟩:=p
    simp only[anyF,runOpF_eq]
    split
    ·rename_i v hv
     cases hm:mayFloat ops pre i o with
     | false=>exact hA
     | true =>
      simp only
      split
      ·rename_i tm htm
       have:=float_ok hG h rfl rfl (i:=i) (o:=o) (by simp) hv hm htm
       refine⟨E,f,fs,w,Env.le.refl E,Steps.refl P _,?_⟩
       have e:((i,o)::u).filter (fun p=>!Nat.beq p.1 i)=u.filter (fun p=>!Nat.beq p.1 i):=by
        rw[List.filter_cons]; simp
       rw[e] at this
       exact this
      ·trivial
    ·exact hA
def goF (ih:Ctx→Cfg→Bool) (G:Ctx) (c:Cfg):Bool:=ih G c
def exploreF (P:Program) (ok:AV→AHeap→Bool) (n:Nat):Ctx→Cfg→Bool :=
 @Nat.rec (fun _=>Ctx→Cfg→Bool) (fun _ _=>false) (fun _ ih G c=>@Out.rec (fun _=>Bool) (fun c'=>goF ih G c') (fun l=>l.all (ih G))
  (fun b=>@Bool.rec (fun _=>Bool) false (ih { G with asm:=(b,false)::G.asm } (c.refine { G with asm:=(b,false)::G.asm })) (ih { G with asm:=(b,true)::G.asm } (c.refine { G with asm:=(b,true)::G.asm }))) (fun v H=>ok v H) (fun _=>false) (stepF P G c)) n
theorem exploreF_ok {P:Program}{S:Start}(hP:P.follows .mixedOrders=true) {ok:AV→AHeap→Bool}:∀ (n:Nat) {G:Ctx}{E:Env}{c:Cfg}{f:Frame}{fs:List Frame}{w:World},G.Ok E→MRel P S E c f fs w →
  exploreF P ok n G c=true→EndSpec P S E (lone f (fs++S.cs) w) ok
 | 0,_,_,_,_,_,_,_,_,h=>by simp [exploreF] at h
 | n+1,G,E,c,f,fs,w,hG,hM,h=>by
  have hst:=stepF_ok hP hG hM
  have e:exploreF P ok (n+1) G c=@Out.rec (fun _=>Bool) (fun c'=>exploreF P ok n G c') (fun l=>l.all (exploreF P ok n G))
   (fun b=>@Bool.rec (fun _=>Bool) false (exploreF P ok n { G with asm:=(b,false)::G.asm } (c.refine { G with asm:=(b,false)::G.asm })) (exploreF P ok n { G with asm:=(b,true)::G.asm } (c.refine { G with asm:=(b,true)::G.asm }))) (fun v H=>ok v H) (fun _=>false) (stepF P G c):=rfl
  rw[e] at h
  cases hc:stepF P G c with
  | next c' =>
   rw[hc] at hst h
   obtain⟨E',f',fs',w',h1,h2,h3⟩:=hst
   exact(exploreF_ok hP n (hG.le h1) h3 h).of h1 h2
  | ways l =>
   rw[hc] at hst h
   obtain⟨c',hc',E',f',fs',w',h1,h2,h3⟩:=hst
   exact(exploreF_ok hP n (hG.le h1) h3 (List.all_eq_true.1 h c' hc')).of h1 h2
  | fork b =>
   rw[hc] at h
   simp only at h
   cases h1:exploreF P ok n { G with asm:=(b,true)::G.asm } (c.refine { G with asm:=(b,true)::G.asm }) with
   | false=>rw[h1] at h; simp at h
   | true =>
    rw[h1] at h
    cases hb:b.den E with
    | true=>exact exploreF_ok hP n (hG.cons hb) (hM.refine (hG.cons hb)) h1
    | false=>exact exploreF_ok hP n (hG.cons hb) (hM.refine (hG.cons hb)) h
  | done v H =>
   rw[hc] at hst h
   obtain⟨E',f',w',v',h0,h1,h2,h3,h4,h5,h6⟩:=hst
   exact⟨E',v,H,f',w',v',h,h0,h1,h2,h3,h4,h5,h6⟩
  | fail s=>rw[hc] at h; simp at h
end
end Go.Ev
