/- Ev, part 5: given configurations, with their code looked up in the program; a call by a plan. -/
import Derived.Test.YtmmehhibkpfghaaGreatEv4
set_option linter.unusedVariables false
namespace Go.Ev
noncomputable section
def U (n:Int):AV:=.int .u64 (.lit n)
def I (n:Int):AV:=.int .i64 (.lit n)
def Y (n:Int):AV:=.int .u8 (.lit n)
def T (b:Bool):AV:=.bool (.lit b)
def Is:List Int→List AV
 | []=>[]
 | n::r=>.int .i64 (.lit n)::Is r
def Us:List Int→List AV
 | []=>[]
 | n::r=>.int .u64 (.lit n)::Us r
def loopAt (blk:Nat):Code→Nat→List AItem→Option (List AItem)
 | .seq a b,near,k=>match loopAt blk a near (.code b::k) with
  | some r=>some r
  | none=>loopAt blk b near k
 | .cond _ a b,near,k=>match loopAt blk a near k with
  | some r=>some r
  | none=>loopAt blk b near k
 | .block id body,_,k=>loopAt blk body id (.inBlock id::k)
 | .loop body,near,k=>if Nat.beq near blk then some (.inLoop body::k) else loopAt blk body near (.inLoop body::k)
 | .scope body,near,k=>loopAt blk body near (.inScope body::k)
 | .rangeFunc _ _ _ body,_,_=>loopAt blk body 0 []
 | _,_,_=>none
def regAt (rid:Nat):Code→List AItem→Option (Array Oper × List AItem)
 | .region id ops _,k=>if Nat.beq id rid then some (ops,k) else none
 | .seq a b,k=>match regAt rid a (.code b::k) with
  | some r=>some r
  | none=>regAt rid b k
 | .cond _ a b,k=>match regAt rid a k with
  | some r=>some r
  | none=>regAt rid b k
 | .block id body,k=>regAt rid body (.inBlock id::k)
 | .loop body,k=>regAt rid body (.inLoop body::k)
 | .scope body,k=>regAt rid body (.inScope body::k)
 | .rangeFunc _ _ a body,_=>match regAt rid a [.beginRound,.code body] with
  | some r=>some r
  | none=>regAt rid body []
 | _,_=>none
def rangeAt (t:Nat):Code→List AItem→Option (Array Tmp × Code × Code × List AItem)
 | .rangeFunc (.tmp u) ps a body,k=>if Nat.beq u t then some (ps,a,body,k) else rangeAt t body []
 | .seq a b,k=>match rangeAt t a (.code b::k) with
  | some r=>some r
  | none=>rangeAt t b k
 | .cond _ a b,k=>match rangeAt t a k with
  | some r=>some r
  | none=>rangeAt t b k
 | .block id body,k=>rangeAt t body (.inBlock id::k)
 | .loop body,k=>rangeAt t body (.inLoop body::k)
 | .scope body,k=>rangeAt t body (.inScope body::k)
 | _,_=>none
def bodyOf (P:Program) (fn:FuncId):Code:=match P.funcs[fn]? with
 | some f=>f.body.getD .skip
 | none=>.skip
def sizeOfFn (P:Program) (fn:FuncId):Nat:=match P.funcs[fn]? with
 | some f=>f.ntmps
 | none=>0
def allAny:Nat→Tr AV→Tr AV
 | 0,t=>t
 | n+1,t=>allAny n (t.set n .any)
def setAll:List (Nat × AV)→Tr AV→Tr AV
 | [],t=>t
 | (i,v)::r,t=>setAll r (t.set i v)
def slots (n:Nat) (l:List (Nat × AV)):Tr AV:=setAll l (allAny n .nil)
def pickOps (ops:Array Oper) (l:List Nat):List (Nat × Oper):=l.filterMap fun i=>match ops[i]? with | some o=>some (i,o) | none=>none
def frLoop (P:Program) (fn blk:Nat) (tm:List (Nat × AV)) (defers:List ADef:=[]) (round:Option Nat:=none) (deferred:Bool:=false):AFrame :=
 {fn,tmps:=slots (sizeOfFn P fn) tm,size:=sizeOfFn P fn,reg:=.none,todo:=(loopAt blk (bodyOf P fn) 0 []).getD [],defers,returning:=false,deferred,round }
def enterL:List AItem→List AItem
 | .inLoop b::k=>.code (.loop b)::k
 | k=>k
def frEntry (P:Program) (fn blk:Nat) (tm:List (Nat × AV)) (defers:List ADef:=[]) (round:Option Nat:=none) (deferred:Bool:=false):AFrame :=
 {fn,tmps:=slots (sizeOfFn P fn) tm,size:=sizeOfFn P fn,reg:=.none,todo:=enterL ((loopAt blk (bodyOf P fn) 0 []).getD []),defers,returning:=false,deferred,round }
def frAny (P:Program) (fn rid:Nat) (undone pre:List Nat) (tm:List (Nat × AV)) (defers:List ADef:=[]) (round:Option Nat:=none) (deferred:Bool:=false):AFrame :=
 match (regAt rid (bodyOf P fn) []).getD (#[],[]) with
 | (ops,k)=>{ fn,tmps:=slots (sizeOfFn P fn) tm,size:=sizeOfFn P fn,reg:=.any ops (pickOps ops undone) (pickOps ops pre),todo:=k,defers,returning:=false,deferred,round }
def frSeq (P:Program) (fn rid i:Nat) (tm:List (Nat × AV)) (defers:List ADef:=[]) (round:Option Nat:=none) (deferred:Bool:=false):AFrame :=
 match (regAt rid (bodyOf P fn) []).getD (#[],[]) with
 | (ops,k)=>{ fn,tmps:=slots (sizeOfFn P fn) tm,size:=sizeOfFn P fn,reg:=.seq ops i (ops.toList.drop i),todo:=k,defers,returning:=false,deferred,round }
def frRange (P:Program) (fn key l:Nat) (tm:List (Nat × AV)) (defers:List ADef:=[]) (round:Option Nat:=none) (deferred:Bool:=false):AFrame :=
 match (rangeAt key (bodyOf P fn) []).getD (#[],.skip,.skip,[]) with
 | (_,_,_,k)=>{ fn,tmps:=slots (sizeOfFn P fn) tm,size:=sizeOfFn P fn,reg:=.none,todo:=.inRangeFunc l::k,defers,returning:=false,deferred,round }
def loopBlk (P:Program) (fn key:Nat) (st:LoopState) (tm:List (Nat × AV)) (ds:Nat):AB :=
 match (rangeAt key (bodyOf P fn) []).getD (#[],.skip,.skip,[]) with
 | (ps,a,b,_)=>.loop st none fn (slots (sizeOfFn P fn) tm) (sizeOfFn P fn) ps a b ds
def Leaf.bare:Leaf→Leaf
 | .dead _ => .dead ""
 | l=>l
def End.data (e:End):List (SB × Bool) × Leaf:=(e.asm,e.leaf.bare)
def CtlAll (us:List Cut):List End→Prop
 | []=>True
 | e::r=>CtlOK us e∧CtlAll us r
end
theorem ctlAll_ok {us:List Cut}:∀ {l:List End},CtlAll us l→∀ e ∈ l,CtlOK us e
 | [],_,e,he=>by simp at he
 | x::r,h,e,he=>by
  rcases List.mem_cons.1 he with rfl | he
  ·exact h.1
  ·exact ctlAll_ok h.2 e he
def VCs (p:Plan) (k:Nat) (l:List (List (SB × Bool) × Leaf)):Prop:=∀ E:Env,(p.G k).Ok E→p.phi k E→∀ x ∈ l,Facts E x.1→LeafVC p k E x.2
theorem vcs_ok {p:Plan}{k:Nat}{l:List End}{d:List (List (SB × Bool) × Leaf)}(h:VCs p k d) (hd:l.map End.data=d):∀ e ∈ l,∀ E:Env,(p.G k).Ok E→p.phi k E→Facts E e.asm→LeafVC p k E e.leaf :=
 fun e he E hG hΦ hf=>by
  have:=h E hG hΦ e.data (by rw[← hd]; exact List.mem_map_of_mem he) hf
  obtain⟨asm,leaf,ids,cfg⟩:=e
  cases leaf <;> exact this
end Go.Ev
