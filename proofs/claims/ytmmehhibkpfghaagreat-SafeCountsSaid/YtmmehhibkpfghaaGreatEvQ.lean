/- Ev, part Q: how a configuration lies in the machine. -/
import Derived.Test.YtmmehhibkpfghaaGreatEvP
set_option linter.unusedVariables false
namespace Go.Ev
mutual
theorem AV.beq_ok:∀ {a b:AV},AV.beq a b=true→a=b
 | .bool a,b,h=>by cases b <;> simp_all [AV.beq]
 | .int k a,b,h=>by cases b <;> simp_all [AV.beq]
 | .str a,b,h=>by cases b <;> simp_all [AV.beq]
 | .nilPtr,b,h=>by cases b <;> simp_all [AV.beq]
 | .ptr i a,b,h=>by cases b <;> simp_all [AV.beq]
 | .nilSlice,b,h=>by cases b <;> simp_all [AV.beq]
 | .slice i a c d,b,h=>by cases b <;> simp_all [AV.beq]
 | .slack i a c d,b,h=>by cases b <;> simp_all [AV.beq]
 | .empty f,b,h=>by cases b <;> simp_all [AV.beq]
 | .nilMap,b,h=>by cases b <;> simp_all [AV.beq]
 | .map i,b,h=>by cases b <;> simp_all [AV.beq]
 | .nilChan,b,h=>by cases b <;> simp_all [AV.beq]
 | .chan i,b,h=>by cases b <;> simp_all [AV.beq]
 | .func f x y,b,h=>by
  cases b <;> simp [AV.beq] at h
  rename_i g u v
  obtain⟨⟨h1,h2⟩,h3⟩:=h
  rw[h1,AV.beqL_ok h2,AV.beqL_ok h3]
 | .yieldF i,b,h=>by cases b <;> simp_all [AV.beq]
 | .nilFunc,b,h=>by cases b <;> simp_all [AV.beq]
 | .iface t x,b,h=>by
  cases b <;> simp [AV.beq] at h
  rename_i u y
  rw[h.1,AV.beq_ok h.2]
 | .nilIface,b,h=>by cases b <;> simp_all [AV.beq]
 | .agg l,b,h=>by
  cases b <;> simp [AV.beq] at h
  rw[AV.beqL_ok h]
 | .tuple l,b,h=>by
  cases b <;> simp [AV.beq] at h
  rw[AV.beqL_ok h]
 | .raw i,b,h=>by cases b <;> simp_all [AV.beq]
 | .any,b,h=>by cases b <;> simp [AV.beq] at h
 | .oslice i a n,b,h=>by cases b <;> simp_all [AV.beq]
 | .ite s x y,b,h=>by
  cases b <;> simp [AV.beq] at h
  obtain⟨⟨h1,h2⟩,h3⟩:=h
  rw[h1,AV.beq_ok h2,AV.beq_ok h3]
theorem AV.beqL_ok:∀ {a b:List AV},AV.beqL a b=true→a=b
 | [],b,h=>by cases b <;> simp_all [AV.beqL]
 | x::xs,b,h=>by
  cases b with
  | nil=>simp [AV.beqL] at h
  | cons y ys =>
   simp [AV.beqL] at h
   rw[AV.beq_ok h.1,AV.beqL_ok h.2]
end
def IRel (E:Env):AItem→Item→Prop
 | .code c,i=>i=.code c
 | .inBlock id,i=>i=.inBlock id
 | .inLoop b,i=>i=.inLoop b
 | .inScope b,i=>i=.inScope b
 | .inRangeFunc l,i=>∃ b,E.loc l=some b∧i=.inRangeFunc b
 | .endRangeFunc l,i=>∃ b,E.loc l=some b∧i=.endRangeFunc b
 | .beginRound,i=>i=.beginRound
def IRelL (E:Env):List AItem→List Item→Prop
 | [],k=>k=[]
 | a::as,k=>∃ i r,IRel E a i∧IRelL E as r∧k=i::r
def ARel (E:Env) (pre:List (Nat × Oper)) (l:List Nat) (tm:Tr AV) (size:Nat) (tv:Array Value):Prop :=
 tv.size=size∧∀ t,t<size→(∀ p ∈ pre,p.1 ∈ l→p.2.dst≠some t)→∃ v,tv[t]?=some v∧VRel E ((tm.get t).getD undefA) v
structure AnyRel (ops:Array Oper) (undone pre:List (Nat × Oper)) (done l:List Nat):Prop where
 sched:Sched ops (done++l)
 hundone:∀ p ∈ undone,p.1 ∈ l∧ops[p.1]?=some p.2
 hpre:∀ p ∈ pre,ops[p.1]?=some p.2
 cover:∀ j ∈ l,(∃ o,(j,o) ∈ undone)∨∃ o,(j,o) ∈ pre
 apart:∀ p ∈ undone,∀ q ∈ pre,p.1≠q.1
 own:∀ p ∈ pre,∀ d,p.2.dst=some d→d ∉ readsOf ops p.2
 seen:∀ p ∈ pre,∀ q ∈ pre,p.1≠q.1→∀ d,q.2.dst=some d→d ∈ readsOf ops p.2→Pred ops p.1 q.1
 dsts:∀ p ∈ pre,∀ q ∈ pre,p.1≠q.1→∀ d,p.2.dst=some d→q.2.dst≠some d
def RegRel (E:Env) (susp:Bool) (af:AFrame) (k:List Item) (f:Frame):Prop :=
 match af.reg with
 | .none=>f.todo=k∧TRel E af.tmps af.size f.tmps
 | .seq ops i rest=>rest=ops.toList.drop i∧f.todo=.inRegion ops (List.range' i rest.length)::k∧TRel E af.tmps af.size f.tmps
 | .any ops undone pre=>∃ done l,AnyRel ops undone pre done l∧f.todo=.inRegion ops l::k∧ARel E pre l af.tmps af.size f.tmps ∧
   (susp=true→∃ i o u l',undone=(i,o)::u∧l=i::l'∧∀ p ∈ u,p.1≠i)
def putV (tv:Array Value) (dst:Option Tmp) (v:Value):Array Value :=
 match dst with
 | some d=>tv.setIfInBounds d v
 | none=>tv
theorem RegRel.seq_inv {E:Env}{s:Bool}{af:AFrame}{k:List Item}{f:Frame}{ops:Array Oper}{i:Nat}{rest:List Oper}(h:af.reg=.seq ops i rest) (hr:RegRel E s af k f) :
  rest=ops.toList.drop i∧f.todo=.inRegion ops (List.range' i rest.length)::k∧TRel E af.tmps af.size f.tmps:=by
 unfold RegRel at hr; rw[h] at hr; exact hr
theorem RegRel.any_inv {E:Env}{s:Bool}{af:AFrame}{k:List Item}{f:Frame}{ops:Array Oper}{undone pre:List (Nat × Oper)}(h:af.reg=.any ops undone pre) (hr:RegRel E s af k f) :
  ∃ done l,AnyRel ops undone pre done l∧f.todo=.inRegion ops l::k∧ARel E pre l af.tmps af.size f.tmps∧(s=true→∃ i o u l',undone=(i,o)::u∧l=i::l'∧∀ p ∈ u,p.1≠i):=by
 unfold RegRel at hr; rw[h] at hr; exact hr
theorem RegRel.none_mk {E:Env}{s:Bool}{af:AFrame}{k:List Item}{f:Frame}(h:af.reg=.none) (ht:f.todo=k) (hr:TRel E af.tmps af.size f.tmps):RegRel E s af k f:=by
 unfold RegRel; rw[h]; exact⟨ht,hr⟩
theorem RegRel.none_inv {E:Env}{s:Bool}{af:AFrame}{k:List Item}{f:Frame}(h:af.reg=.none) (hr:RegRel E s af k f):f.todo=k∧TRel E af.tmps af.size f.tmps:=by
 unfold RegRel at hr; rw[h] at hr; exact hr
theorem RegRel.seq_mk {E:Env}{s:Bool}{af:AFrame}{k:List Item}{f:Frame}{ops:Array Oper}{i:Nat}{rest:List Oper}(h:af.reg=.seq ops i rest) (h1:rest=ops.toList.drop i)
  (ht:f.todo=.inRegion ops (List.range' i rest.length)::k) (hr:TRel E af.tmps af.size f.tmps):RegRel E s af k f:=by
 unfold RegRel; rw[h]; exact⟨h1,ht,hr⟩
theorem RegRel.any_mk {E:Env}{s:Bool}{af:AFrame}{k:List Item}{f:Frame}{ops:Array Oper}{undone pre:List (Nat × Oper)}(h:af.reg=.any ops undone pre) (done l:List Nat)
  (ha:AnyRel ops undone pre done l) (ht:f.todo=.inRegion ops l::k) (hr:ARel E pre l af.tmps af.size f.tmps)
  (hs:s=true→∃ i o u l',undone=(i,o)::u∧l=i::l'∧∀ p ∈ u,p.1≠i):RegRel E s af k f:=by
 unfold RegRel; rw[h]; exact⟨done,l,ha,ht,hr,hs⟩
structure FRel (E:Env) (susp:Bool) (af:AFrame) (f:Frame):Prop where
 fn:f.fn=af.fn
 kind:f.kind=if af.deferred then .deferred else .normal
 round:match af.round with | none=>f.roundOf=none | some l=>∃ b,E.loc l=some b∧f.roundOf=some b
 defers:DRelL E af.defers f.defers
 mode:f.mode=if af.returning then .returning else .run
 body:if af.returning then TRel E af.tmps af.size f.tmps else ∃ k,IRelL E af.todo k∧RegRel E susp af k f
def Floats (P:Program) (E:Env) (w:World) (size:Nat) (ops:Array Oper) (tm:Tr AV) (o:Oper):Prop :=
 ∀ (f:Frame),f.tmps.size=size→(∀ t ∈ readsOf ops o,VRel E ((tm.get t).getD undefA) (f.tmps.getD t undef)) →
  (Region.wanted o (yielded ops f.tmps)=true∧(∀ c,o.op≠.defer c)∧∃ v,(∀ d,o.dst=some d→VRel E ((tm.get d).getD undefA) v)∧(execOp f.eval o).run P w=.ok (.value v) w) ∨
  (Region.wanted o (yielded ops f.tmps)=false∧∀ d,o.dst=some d→VRel E ((tm.get d).getD undefA) undef)
def TopOK (P:Program) (E:Env) (w:World) (af:AFrame):Prop :=
 match af.reg with
 | .any ops _ pre=>∀ p ∈ pre,Floats P E w af.size ops af.tmps p.2∧readsOk af.size ops p.2=true
 | _=>True
def CRelL (E:Env):Bool→List AFrame→List Frame→Prop
 | _,[],fs=>fs=[]
 | d,a::as,fs=>∃ f r,FRel E true a f∧a.returning=d∧CRelL E a.deferred as r∧fs=f::r
theorem IRel.le {E E':Env}(h:E.le E') {a:AItem}{i:Item}(hi:IRel E a i):IRel E' a i:=by
 cases a with
 | inRangeFunc l=>obtain⟨b,hb,rfl⟩:=hi; exact⟨b,h.loc _ _ hb,rfl⟩
 | endRangeFunc l=>obtain⟨b,hb,rfl⟩:=hi; exact⟨b,h.loc _ _ hb,rfl⟩
 | _=>exact hi
theorem IRelL.le {E E':Env}(h:E.le E'):∀ {a:List AItem}{k:List Item},IRelL E a k→IRelL E' a k
 | [],k,hk=>hk
 | a::as,k,hk=>by obtain⟨i,r,hi,hr,rfl⟩:=hk; exact⟨i,r,hi.le h,IRelL.le h hr,rfl⟩
theorem ARel.le {E E':Env}(h:E.le E') {pre:List (Nat × Oper)}{l:List Nat}{tm:Tr AV}{n:Nat}{tv:Array Value}(ha:ARel E pre l tm n tv):ARel E' pre l tm n tv :=
 ⟨ha.1,fun t ht hp=>let ⟨v,hv,hr⟩:=ha.2 t ht hp; ⟨v,hv,hr.le h⟩⟩
theorem RegRel.le {E E':Env}(h:E.le E') {s:Bool}{af:AFrame}{k:List Item}{f:Frame}(hr:RegRel E s af k f):RegRel E' s af k f:=by
 unfold RegRel at *
 split at hr
 ·rename_i hreg; exact⟨hr.1,hr.2.le h⟩
 ·rename_i ops i rest hreg; exact⟨hr.1,hr.2.1,hr.2.2.le h⟩
 ·rename_i ops undone pre hreg
  obtain⟨done,l,h1,h2,h3,h4⟩:=hr
  exact⟨done,l,h1,h2,h3.le h,h4⟩
theorem FRel.le {E E':Env}(h:E.le E') {s:Bool}{af:AFrame}{f:Frame}(hf:FRel E s af f):FRel E' s af f where
 fn:=hf.fn
 kind:=hf.kind
 round:=by
  have:=hf.round
  cases hr:af.round with
  | none=>rw[hr] at this; exact this
  | some l=>rw[hr] at this; obtain⟨b,hb,hk⟩:=this; exact⟨b,h.loc _ _ hb,hk⟩
 defers:=hf.defers.le h
 mode:=hf.mode
 body:=by
  have:=hf.body
  split
  ·rename_i hr; rw[if_pos hr] at this; exact this.le h
  ·rename_i hr; rw[if_neg hr] at this
   obtain⟨k,hk,hreg⟩:=this
   exact⟨k,hk.le h,hreg.le h⟩
theorem CRelL.le {E E':Env}(h:E.le E'):∀ {d:Bool}{a:List AFrame}{fs:List Frame},CRelL E d a fs→CRelL E' d a fs
 | _,[],fs,hk=>hk
 | _,a::as,fs,hk=>by obtain⟨f,r,hf,hn,hr,rfl⟩:=hk; exact⟨f,r,hf.le h,hn,CRelL.le h hr,rfl⟩
variable {P:Program} {E:Env} {G:Ctx} {H:AHeap} {w:World}
theorem eval_ok {tm:Tr AV}{f:Frame}{x:Operand}(h:∀ t,x=.tmp t→VRel E ((tm.get t).getD undefA) (f.tmps.getD t undef)) (ho:okOperand x=true):VRel E (evalA tm x) (f.eval x):=by
 cases x with
 | tmp t =>
  have e:evalA tm (.tmp t)=(tm.get t).getD undefA:=by show @Option.rec AV (fun _=>AV) undefA (fun v=>v) (tm.get t)=_; cases tm.get t <;> rfl
  rw[e]; exact h t rfl
 | const v =>
  simp only[okOperand,Option.isSome_iff_exists] at ho
  obtain⟨a,ha⟩:=ho
  have e:evalA tm (.const v)=a:=by show @Option.rec AV (fun _=>AV) (.raw 0) (fun a=>a) (ofConst v)=a; rw[ha]
  rw[e]; simp only[Frame.eval]
  exact ofConst_ok ha
 | global g=>simp [okOperand] at ho
 | func g =>
  simp only[Frame.eval]
  show VRel E (.func (.func g) [] []) _
  simp only[VRel]
  exact⟨[],[],by simp,VRelL.nil,VRelL.nil,rfl⟩
theorem opA_defer {ev:Operand→AV}{c:Call}:(∃ s,opA P G H ev (.defer c)=.fail s)∨∃ d,opA P G H ev (.defer c)=.defer d:=by
 simp only[opA]
 split
 ·unfold deferA
  split
  ·exact .inr ⟨_,rfl⟩
  ·exact .inl ⟨_,rfl⟩
 ·exact .inl ⟨_,rfl⟩
theorem deIte_ok (hG:G.Ok E):∀ {v:AV}{u:Value},VRel E v u→VRel E (deIte G v) u
 | .ite s x y,u,h=>by
  simp only[deIte]
  simp only[VRel] at h
  split
  ·rename_i hk; exact deIte_ok hG (h.1 (SB.knowG_ok hG hk))
  ·rename_i hk; exact deIte_ok hG (h.2 (SB.knowG_ok hG hk))
  ·simp only[VRel]; exact h
 | .bool _,_,h | .int _ _,_,h | .str _,_,h | .nilPtr,_,h | .ptr _ _,_,h | .nilSlice,_,h | .slice _ _ _ _,_,h | .slack _ _ _ _,_,h | .empty _,_,h | .nilMap,_,h | .map _,_,h | .nilChan,_,h | .chan _,_,h
 | .func _ _ _,_,h | .yieldF _,_,h | .nilFunc,_,h | .iface _ _,_,h | .nilIface,_,h | .agg _,_,h | .tuple _,_,h | .raw _,_,h | .any,_,h | .oslice _ _ _,_,h=>by simpa only[deIte] using h
theorem itesA_ok (hH:HRel E H w) (hG:G.Ok E) {o:Oper}{ev:Operand→AV}{ρ:Operand→Value}(he:∀ x ∈ o.op.operands,VRel E (ev x) (ρ x)):OutOK P E H w (itesA P G H ev o.op) (execOp ρ o):=by
 unfold itesA
 split
 ·trivial
 ·exact opA_ok hH hG (fun x hx=>deIte_ok hG (he x hx))
theorem opI_ok (hH:HRel E H w) (hG:G.Ok E) {o:Oper}{ev:Operand→AV}{ρ:Operand→Value}(he:∀ x ∈ o.op.operands,VRel E (ev x) (ρ x)):OutOK P E H w (opI P G H ev o.op (opA P G H ev o.op)) (execOp ρ o):=by
 have h:=opA_ok (P:=P) hH hG he
 revert h
 cases opA P G H ev o.op with
 | fail s=>exact fun _=>itesA_ok hH hG he
 | _=>exact fun h=>h
theorem opI_defer {ev:Operand→AV}{c:Call}:(∃ s,opI P G H ev (.defer c) (opA P G H ev (.defer c))=.fail s)∨(∃ b,opI P G H ev (.defer c) (opA P G H ev (.defer c))=.fork b)∨∃ d,opI P G H ev (.defer c) (opA P G H ev (.defer c))=.defer d:=by
 rcases opA_defer (P:=P) (G:=G) (H:=H) (ev:=ev) (c:=c) with ⟨s,hs⟩ | ⟨d,hs⟩
 ·rw[hs]
  show (∃ s,itesA P G H ev (.defer c)=.fail s)∨(∃ b,itesA P G H ev (.defer c)=.fork b)∨∃ d,itesA P G H ev (.defer c)=.defer d
  unfold itesA
  split
  ·exact .inr (.inl ⟨_,rfl⟩)
  ·rcases opA_defer (P:=P) (G:=G) (H:=H) (ev:=fun x=>deIte G (ev x)) (c:=c) with h | h
   ·exact .inl h
   ·exact .inr (.inr h)
 ·rw[hs]; exact .inr (.inr ⟨d,rfl⟩)
theorem runOp_ok (hH:HRel E H w) (hG:G.Ok E) {size:Nat}{ops:Array Oper}{tm:Tr AV}{o:Oper}{f:Frame}(hrd:∀ t ∈ readsOf ops o,VRel E ((tm.get t).getD undefA) (f.tmps.getD t undef))
  (hsz:f.tmps.size=size) {r:AOut} (hr:runOp P G H size ops tm o=r) (hnf:∀ s,r≠.fail s) (hnk:∀ b,r≠.fork b) :
  readsOk size ops o=true∧((Region.wanted o (yielded ops f.tmps)=true∧(∀ c,o.op=.defer c→∃ d,r=.defer d)∧OutOK P E H w r (execOp f.eval o))∨(Region.wanted o (yielded ops f.tmps)=false∧r=.val undefA)):=by
 unfold runOp at hr
 split at hr
 case isFalse=>exact absurd hr.symm (hnf _)
 rename_i hok
 refine⟨hok,?_⟩
 simp only[readsOk,Bool.and_eq_true] at hok
 obtain⟨hok1,hok2⟩:=hok
 have hop:∀ x ∈ o.op.operands,VRel E (evalA tm x) (f.eval x):=by
  intro x hx
  refine eval_ok (fun t ht=>?_) (Array.all_eq_true_iff_forall_mem.1 hok1 x hx)
  subst ht
  refine hrd t ?_
  unfold readsOf Oper.looksAt
  refine List.mem_append.2 (.inl ?_)
  rw[List.mem_filterMap]
  exact⟨.tmp t,by simpa using hx,rfl⟩
 have yes:∀ {q:AOut},opI P G H (evalA tm) o.op (opA P G H (evalA tm) o.op)=q→(∀ s,q≠.fail s)→(∀ b,q≠.fork b)→(∀ c,o.op=.defer c→∃ d,q=.defer d)∧OutOK P E H w q (execOp f.eval o):=by
  intro q hq hqf hqk
  refine⟨fun c hc=>?_,?_⟩
  ·rw[hc] at hq
   rcases opI_defer (P:=P) (G:=G) (H:=H) (ev:=evalA tm) (c:=c) with ⟨s,hs⟩ | ⟨b,hs⟩ | ⟨d,hs⟩
   ·rw[hs] at hq; exact absurd hq.symm (hqf s)
   ·rw[hs] at hq; exact absurd hq.symm (hqk b)
   ·rw[hs] at hq; exact⟨d,hq.symm⟩
  ·rw[← hq]; exact opI_ok hH hG hop
 unfold wantedA at hr
 split at hr
 ·rename_i hgd
  have:=yes hr hnf hnk
  exact .inl ⟨by simp [Region.wanted,hgd],this.1,this.2⟩
 ·rename_i j want hgd
  split at hr
  ·rename_i hdst
   refine .inr ⟨?_,hr.symm⟩
   simp [Region.wanted,hgd,yielded,hdst]
  ·rename_i d hdst
   have hdr:d ∈ readsOf ops o:=by
    unfold readsOf Oper.looksAt
    refine List.mem_append.2 (.inr ?_)
    rw[hgd]; simp only; rw[hdst]; simp
   have hds:d<f.tmps.size:=by
    rw[hsz]
    have:=List.all_eq_true.1 hok2 d hdr
    exact of_decide_eq_true this
   have hv:=hrd d hdr
   have hgetd:f.tmps.getD d undef=f.tmps[d]:=by simp [Array.getD,hds]
   rw[hgetd] at hv
   have hy:yielded ops f.tmps j=match f.tmps[d] with | .bool b=>some b | _=>none:=by
    have hb:((ops[j]?).bind (·.dst)).bind (f.tmps[·]?)=some f.tmps[d]:=by rw[hdst]; simp [hds]
    unfold yielded
    rw[hb]
    generalize f.tmps[d]=z
    cases z <;> rfl
   split at hr
   ·rename_i b hb
    rw[hb] at hv
    simp only[VRel] at hv
    split at hr
    ·rename_i t ht
     have hbt:=SB.know_ok hG ht
     split at hr
     ·rename_i htw
      have:=yes hr hnf hnk
      refine .inl ⟨?_,this.1,this.2⟩
      simp [Region.wanted,hgd,hy,hv,hbt,htw]
     ·rename_i htw
      refine .inr ⟨?_,hr.symm⟩
      simp [Region.wanted,hgd,hy,hv,hbt,htw]
    ·exact absurd hr.symm (hnk _)
   ·exact absurd hr.symm (hnf _)
   ·exact absurd hr.symm (hnf _)
   ·exact absurd hr.symm (hnf _)
   ·rename_i hnb hnr hna hni
    refine .inr ⟨?_,hr.symm⟩
    have:∀ b,f.tmps[d]≠.bool b:=by
     intro b hbv
     rw[hbv] at hv
     cases hx:(tm.get d).getD undefA <;> rw[hx] at hv <;> simp only[VRel] at hv
     case bool=>exact hnb _ hx
     case raw=>exact hnr _ hx
     case any=>exact hna hx
     case ite=>exact hni _ _ _ hx
     all_goals (first | (simp at hv; done) | (obtain⟨_,hv⟩:=hv; simp at hv; done) | (obtain⟨_,_,hv⟩:=hv; simp at hv; done) | (obtain⟨_,_,_,hv⟩:=hv; simp at hv; done) | (obtain⟨_,_,_,_,_,hv⟩:=hv; simp at hv; done))
    simp only[Region.wanted,hgd,hy]
    cases hx:f.tmps[d] <;> first | (exact absurd hx (this _)) | simp
end Go.Ev
