/- Ev, part O: the machine's steps, of whatever frame. -/
import Derived.Test.YtmmehhibkpfghaaGreatEvN
set_option linter.unusedVariables false
namespace Go.Ev
variable {P:Program} {cs:List Frame} {w:World}
section
variable {f:Frame} {k:List Item}
theorem stF_skip (hm:f.mode=.run) (ht:f.todo=.code .skip::k):step P (lone f cs w)=.next (lone { f with todo:=k } cs w) :=
 step_lone_go (by simp [stepG,stepG.exec,hm,ht])
theorem stF_label {l:Nat}(hm:f.mode=.run) (ht:f.todo=.code (.label l)::k):step P (lone f cs w)=.next (lone { f with todo:=k } cs w) :=
 step_lone_go (by simp [stepG,stepG.exec,hm,ht])
theorem stF_inBlock {l:Nat}(hm:f.mode=.run) (ht:f.todo=.inBlock l::k):step P (lone f cs w)=.next (lone { f with todo:=k } cs w) :=
 step_lone_go (by simp [stepG,stepG.exec,hm,ht])
theorem stF_inScope {b:Code}(hm:f.mode=.run) (ht:f.todo=.inScope b::k):step P (lone f cs w)=.next (lone { f with todo:=k } cs w) :=
 step_lone_go (by simp [stepG,stepG.exec,hm,ht])
theorem stF_seq {a b:Code}(hm:f.mode=.run) (ht:f.todo=.code (.seq a b)::k):step P (lone f cs w)=.next (lone { f with todo:=.code a::.code b::k } cs w) :=
 step_lone_go (by simp [stepG,stepG.exec,hm,ht])
theorem stF_cond {x:Operand}{a b:Code}{t:Bool}(hm:f.mode=.run) (ht:f.todo=.code (.cond x a b)::k) (hx:f.eval x=.bool t) :
  step P (lone f cs w)=.next (lone { f with todo:=.code (if t then a else b)::k } cs w) :=
 step_lone_go (by simp [stepG,stepG.exec,hm,ht,hx])
theorem stF_block {id:Nat}{b:Code}(hm:f.mode=.run) (ht:f.todo=.code (.block id b)::k):step P (lone f cs w)=.next (lone { f with todo:=.code b::.inBlock id::k } cs w) :=
 step_lone_go (by simp [stepG,stepG.exec,hm,ht])
theorem stF_loop {b:Code}(hm:f.mode=.run) (ht:f.todo=.code (.loop b)::k):step P (lone f cs w)=.next (lone { f with todo:=.code b::.inLoop b::k } cs w) :=
 step_lone_go (by simp [stepG,stepG.exec,hm,ht])
theorem stF_inLoop {b:Code}(hm:f.mode=.run) (ht:f.todo=.inLoop b::k):step P (lone f cs w)=.next (lone { f with todo:=.code b::.inLoop b::k } cs w) :=
 step_lone_go (by simp [stepG,stepG.exec,hm,ht])
theorem stF_scope {b:Code}(hm:f.mode=.run) (ht:f.todo=.code (.scope b)::k):step P (lone f cs w)=.next (lone { f with todo:=.code b::.inScope b::k } cs w) :=
 step_lone_go (by simp [stepG,stepG.exec,hm,ht])
theorem stF_exit {id:Nat}{k':List Item}(hm:f.mode=.run) (ht:f.todo=.code (.exit id)::k) (he:exitTo id k=some k') :
  step P (lone f cs w)=.next (lone { f with todo:=k' } cs w) :=
 step_lone_go (by simp [stepG,stepG.exec,hm,ht,he])
theorem stF_region {id:Nat}{ops:Array Oper}(hm:f.mode=.run) (ht:f.todo=.code (.region id ops false)::k) :
  step P (lone f cs w)=.next (lone { f with todo:=.inRegion ops (List.range ops.size)::k } cs w) :=
 step_lone_go (by simp [stepG,stepG.exec,hm,ht])
theorem stF_draw {id:Nat}{ops:Array Oper}(hm:f.mode=.run) (ht:f.todo=.code (.region id ops true)::k) :
  step P (lone f cs w)=.next (lone { f with todo:=.inRegion ops (Region.schedule (P.follows .mixedOrders) ops (w.tape w.drawn (.order f.fn id)))::k } cs w.drew) :=
 step_lone_go (by simp [stepG,stepG.exec,hm,ht,Question.forced,Question.cut])
theorem stF_pop {ops:Array Oper}(hm:f.mode=.run) (ht:f.todo=.inRegion ops []::k):step P (lone f cs w)=.next (lone { f with todo:=k } cs w) :=
 step_lone_go (by simp [stepG,stepG.exec,hm,ht])
theorem stF_ret (hm:f.mode=.run) (hr:f.roundOf=none) (ht:f.todo=.code .ret::k):step P (lone f cs w)=.next (lone { f with mode:=.returning } cs w) :=
 step_lone_go (by simp [stepG,stepG.exec,hm,ht,hr])
theorem stF_end (hm:f.mode=.run) (hr:f.roundOf=none) (ht:f.todo=[]):step P (lone f cs w)=.next (lone { f with mode:=.returning } cs w) :=
 step_lone_go (by simp [stepG,stepG.exec,hm,ht,hr])
theorem stF_unwanted {ops:Array Oper}{i:Nat}{l:List Nat}{o:Oper}(hm:f.mode=.run) (ht:f.todo=.inRegion ops (i::l)::k) (ho:ops[i]?=some o)
  (hw:Region.wanted o (yielded ops f.tmps)=false):step P (lone f cs w)=.next (lone (f.finish undef) cs w) :=
 step_lone_go (by simp [stepG,stepG.exec,hm,ht,ho,hw])
theorem stG_op {ops:Array Oper}{i:Nat}{l:List Nat}{o:Oper}(hm:f.mode=.run) (ht:f.todo=.inRegion ops (i::l)::k) (ho:ops[i]?=some o)
  (hw:Region.wanted o (yielded ops f.tmps)=true) (hd:∀ c,o.op≠.defer c) :
  stepG P true { frame:=f,callers:=cs,status:=.running,dying:=none } w=stepG.apply P true f cs none (execOp f.eval o) w:=by
 have h1:f.oper?=some o:=by simp [Frame.oper?,ht,ho]
 simp only[stepG,hm,stepG.exec,ht,ho,Option.map_some,hw,Option.getD_some,if_true]
 unfold stepG.oper
 rw[h1]
 simp only
 split
 ·rename_i c _ hc; exact absurd hc (hd _)
 ·rfl
theorem stF_defer {ops:Array Oper}{i:Nat}{l:List Nat}{o:Oper}{d:Deferred}{w':World}(hm:f.mode=.run) (ht:f.todo=.inRegion ops (i::l)::k) (ho:ops[i]?=some o)
  (hw:Region.wanted o (yielded ops f.tmps)=true) (hr0:f.roundOf=none) (hr:(execOp f.eval o).run P w=.ok (.defer d) w') :
  step P (lone f cs w)=.next (lone ({ f with defers:=d::f.defers }.finish undef) cs w') :=
 step_lone_go (by
  have h1:f.oper?=some o:=by simp [Frame.oper?,ht,ho]
  simp only[stepG,hm,stepG.exec,ht,ho,Option.map_some,hw,Option.getD_some,if_true]
  unfold stepG.oper
  rw[h1]
  simp only[hr0]
  simp [stepG.apply,hr,ht,hm,hr0])
theorem stF_value {ops:Array Oper}{i:Nat}{l:List Nat}{o:Oper}{v:Value}{w':World}(hm:f.mode=.run) (ht:f.todo=.inRegion ops (i::l)::k) (ho:ops[i]?=some o)
  (hw:Region.wanted o (yielded ops f.tmps)=true) (hd:∀ c,o.op≠.defer c) (hr:(execOp f.eval o).run P w=.ok (.value v) w') :
  step P (lone f cs w)=.next (lone (f.finish v) cs w') :=
 step_lone_go (by rw[stG_op hm ht ho hw hd]; simp [stepG.apply,hr])
theorem stF_skipv {ops:Array Oper}{i:Nat}{l:List Nat}{o:Oper}{w':World}(hm:f.mode=.run) (ht:f.todo=.inRegion ops (i::l)::k) (ho:ops[i]?=some o)
  (hw:Region.wanted o (yielded ops f.tmps)=true) (hd:∀ c,o.op≠.defer c) (hr:(execOp f.eval o).run P w=.ok .skip w') :
  step P (lone f cs w)=.next (lone (f.finish undef) cs w') :=
 step_lone_go (by rw[stG_op hm ht ho hw hd]; simp [stepG.apply,hr])
theorem stF_enter {ops:Array Oper}{i:Nat}{l:List Nat}{o:Oper}{g:FuncId}{args:Array Value}{w':World}(hm:f.mode=.run) (ht:f.todo=.inRegion ops (i::l)::k)
  (ho:ops[i]?=some o) (hw:Region.wanted o (yielded ops f.tmps)=true) (hd:∀ c,o.op≠.defer c) (hr:(execOp f.eval o).run P w=.ok (.enter g args) w') :
  step P (lone f cs w)=.next (lone (Frame.enter P g args .normal) (f::cs) w') :=
 step_lone_go (by rw[stG_op hm ht ho hw hd]; simp [stepG.apply,hr,ht])
theorem stF_round {ops:Array Oper}{i:Nat}{l:List Nat}{o:Oper}{b:Nat}{fn:FuncId}{tmps:Array Value}{as body:Code}{w':World}(hm:f.mode=.run)
  (ht:f.todo=.inRegion ops (i::l)::k) (ho:ops[i]?=some o) (hw:Region.wanted o (yielded ops f.tmps)=true) (hd:∀ c,o.op≠.defer c)
  (hr:(execOp f.eval o).run P w=.ok (.round b fn tmps as body) w') :
  step P (lone f cs w)=.next (lone (Frame.round b fn tmps as body .normal) (f::cs) w') :=
 step_lone_go (by rw[stG_op hm ht ho hw hd]; simp [stepG.apply,hr])
theorem stF_comm {ops:Array Oper}{i:Nat}{l:List Nat}{o:Oper}{v:Value}{w':World}(hm:f.mode=.run) (ht:f.todo=.inRegion ops (i::l)::k) (ho:ops[i]?=some o)
  (hw:Region.wanted o (yielded ops f.tmps)=true) (hd:∀ c,o.op≠.defer c) (h:CommTo P w (execOp f.eval o) v w') :
  step P (lone f cs w)=.next (lone (f.finish v) cs w'):=by
 obtain⟨cases,blk,shape,hrun,hst⟩:=h
 have hb:(stepG P true { frame:=f,callers:=cs,status:=.running,dying:=none } w).bare=.comm { frame:=f,callers:=cs,status:=.running,dying:=none } cases blk shape w:=by
  rw[stG_op hm ht ho hw hd]; simp [stepG.apply,hrun]
 generalize hs:stepG P true { frame:=f,callers:=cs,status:=.running,dying:=none } w=s at hb
 cases s <;> simp at hb
 obtain⟨rfl,rfl,rfl,rfl,rfl⟩:=hb
 exact hst f cs _ hs
theorem stF_return {c:Frame}{fn:Func}{v:Value}(hm:f.mode=.returning) (hd:f.defers=[]) (hk:f.kind=.normal) (hf:P.funcs[f.fn]?=some fn)
  (hr:(results fn f.tmps).run P w=.ok v w):step P (lone f (c::cs) w)=.next (lone (c.finish v) cs w) :=
 step_lone_go (by simp [stepG,unwind,doReturn,hm,hd,hk,hf,hr])
theorem stF_collected {b:Nat}{ds l:List Deferred}{w':World}(hm:f.mode=.returning) (hd:f.defers={ target:=.collected b,args:=#[] }::ds)
  (hr:(Instr.takeDeferred b).run P w=.ok l w'):step P (lone f cs w)=.next (lone { f with defers:=l++ds } cs w') :=
 step_lone_go (by simp [stepG,unwind,hm,hd,hr])
theorem stF_returnDef {c:Frame}{fn:Func}{v:Value}(hm:f.mode=.returning) (hd:f.defers=[]) (hk:f.kind=.deferred) (hf:P.funcs[f.fn]?=some fn)
  (hr:(results fn f.tmps).run P w=.ok v w) (hc:c.mode=.returning):step P (lone f (c::cs) w)=.next (lone c cs w) :=
 step_lone_go (by simp [stepG,unwind,doReturn,hm,hd,hk,hf,hr,hc])
theorem stF_callDef {d:Deferred}{ds:List Deferred}{g g':FuncId}{ca args:Array Value}{w':World}(hm:f.mode=.returning) (hd:f.defers=d::ds) (ht:d.target=.fn (.func g') ca)
  (hr:(invoke d.target d.args).run P w=.ok (.enter g args) w'):step P (lone f cs w)=.next (lone (Frame.enter P g args .deferred) ({ f with defers:=ds }::cs) w') :=
 step_lone_go (by
  obtain⟨tg,ar⟩:=d
  simp only at ht hr
  subst ht
  simp [stepG,unwind,callDeferred,hm,hd,hr])
theorem stF_beginRound {b:Nat}{w':World}(hm:f.mode=.run) (hr:f.roundOf=some b) (ht:f.todo=.beginRound::k) (hrun:(Instr.beginRound b).run P w=.ok () w') :
  step P (lone f cs w)=.next (lone { f with todo:=k } cs w') :=
 step_lone_go (by simp [stepG,stepG.exec,hm,ht,hr,stepG.apply,hrun,Frame.finish])
theorem stF_leave {b:Nat}{jump:Option Code}{c:Frame}{v:Value}{w':World}(hm:f.mode=.run) (hr:f.roundOf=some b) (hk:f.kind=.normal)
  (ht:(f.todo=[]∧jump=none)∨(∃ k,f.todo=.code .ret::k∧jump=some .ret)∨(∃ id k,f.todo=.code (.exit id)::k∧exitTo id k=none∧jump=some (.exit id)))
  (hrun:(Instr.endRound b jump).run P w=.ok v w'):step P (lone f (c::cs) w)=.next (lone (c.finish v) cs w'):=by
 rcases ht with ⟨ht,rfl⟩ | ⟨k,ht,rfl⟩ | ⟨id,k,ht,he,rfl⟩
 ·exact step_lone_go (by simp [stepG,stepG.exec,hm,ht,hr,hrun,doReturn,hk])
 ·exact step_lone_go (by simp [stepG,stepG.exec,hm,ht,hr,hrun,doReturn,hk])
 ·exact step_lone_go (by simp [stepG,stepG.exec,hm,ht,hr,hrun,doReturn,hk,he])
theorem stF_endRange {b:Nat}{jump:Option Code}{w':World}(hm:f.mode=.run) (ht:f.todo=.endRangeFunc b::k) (hrun:(Instr.endLoop b).run P w=.ok jump w') :
  step P (lone f cs w)=.next (lone { f with todo:=(jump.map Item.code).toList++k } cs w') :=
 step_lone_go (by simp [stepG,stepG.exec,hm,ht,hrun])
theorem stF_rangeFunc {x:Operand}{params:Array Tmp}{as body:Code}{b:Nat}{mk:List Deferred}{g:FuncId}{args:Array Value}{w' w'':World}(hm:f.mode=.run)
  (hr:f.roundOf=none) (ht:f.todo=.code (.rangeFunc x params as body)::k) (hrun:(Instr.enterLoop f.fn f.tmps params as body none).run P w=.ok (b,mk) w')
  (hcall:(do let d ← Deferred.ofValue (f.eval x) #[.func (.yield b) #[] #[]]; invoke d.target d.args:Sem Next).run P w'=.ok (.enter g args) w'') :
  step P (lone f cs w)=.next (lone (Frame.enter P g args .normal) ({ f with todo:=.inRangeFunc b::k,defers:=mk++f.defers }::cs) w''):=by
 refine step_lone_go ?_
 have he:∀ y,Frame.eval { f with todo:=.inRangeFunc b::k,defers:=mk++f.defers } y=f.eval y:=fun y=>by cases y <;> rfl
 have hc2:(do let d ← resolve (Frame.eval { f with todo:=.inRangeFunc b::k,defers:=mk++f.defers }) { callee:=.value x,args:=#[.const (.func (.yield b) #[] #[])],argTypes:=#[] } 0; invoke d.target d.args:Sem Next).run P w'=.ok (.enter g args) w'':=by
  simp only[resolve,he]
  simpa [Frame.eval] using hcall
 simp only[stepG,stepG.exec,hm,ht,hr,Sem.runT_eq,hrun,GStep.bare_after]
 simp only[hm,hr] at hc2
 simp only[stepG.apply,Sem.runT_eq,if_true,GStep.bare_after,hc2,GStep.bare_go]
end
end Go.Ev
