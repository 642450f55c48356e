/- Ev, part S: an operation's end; calls; rounds. -/
import Derived.Test.YtmmehhibkpfghaaGreatEvR
set_option linter.unusedVariables false
namespace Go.Ev
variable {P:Program} {E:Env} {G:Ctx} {H:AHeap} {w:World}
theorem checkPre_ok (hH:HRel E H w) (hG:G.Ok E) {size:Nat}{ops:Array Oper}{tm:Tr AV}{pre:List (Nat × Oper)}(h:checkPre P G H size ops tm pre=true) :
  ∀ p ∈ pre,Floats P E w size ops tm p.2∧readsOk size ops p.2=true:=by
 intro p hp
 have:=List.all_eq_true.1 h p hp
 split at this
 ·rename_i v hv
  refine floats_of_val hH hG hv (fun _ _=>rfl) (fun d hd=>?_)
  rw[hd] at this
  exact(AV.beq_ok this).symm
 ·simp at this
theorem FRel.returning_false {s:Bool}{af:AFrame}{f:Frame}(hf:FRel E s af f) (hr:af.returning=false):f.mode=.run∧∃ k,IRelL E af.todo k∧RegRel E s af k f:=by
 have h1:=hf.mode
 have h2:=hf.body
 rw[hr] at h1 h2
 exact⟨h1,h2⟩
theorem finishA_ok (hH:HRel E H w) (hG:G.Ok E) {af af':AFrame}{f:Frame}{v:AV}{v':Value}(hf:FRel E true af f) (hr:af.returning=false) (hv:VRel E v v')
  (h:finishA P G H af v=some af'):FRel E false af' (f.finish v')∧TopOK P E w af'∧af'.fn=af.fn∧af'.deferred=af.deferred:=by
 obtain⟨hm,k,hk,hreg⟩:=hf.returning_false hr
 unfold finishA at h
 split at h
 ·-- in order
  rename_i ops i o rest hrg
  split at h
  ·rename_i tm htm
   simp at h; subst h
   obtain⟨hrest,htodo,htr⟩:=hreg.seq_inv hrg
   have ho:ops[i]?=some o:=by
    have:=congrArg (·[0]?) hrest
    simpa using this.symm
   have ht':f.todo=.inRegion ops (i::List.range' (i+1) rest.length)::k:=by rw[htodo]; simp [List.range'_succ]
   rw[finish_region ht' ho]
   refine⟨⟨hf.fn,hf.kind,hf.round,hf.defers,hf.mode,?_⟩,trivial,rfl,rfl⟩
   rw[hr]
   simp only[Bool.false_eq_true,if_false]
   refine⟨k,hk,?_⟩
   refine RegRel.seq_mk rfl ?_ rfl (htr.put htm hv)
   have:=congrArg List.tail hrest
   simpa [List.tail_drop] using this
  ·simp at h
 ·-- in whatever order
  rename_i ops i o undone pre hrg
  split at h
  ·rename_i tm htm
   dsimp only at h
   split at h
   ·rename_i hchk
    simp at h; subst h
    obtain⟨done,l,ha,htodo,har,hs⟩:=hreg.any_inv hrg
    obtain⟨i',o',u',l',hu,rfl,hne⟩:=hs rfl
    simp at hu
    obtain⟨⟨rfl,rfl⟩,rfl⟩:=hu
    have ho:ops[i]?=some o:=(ha.hundone (i,o) (by simp)).2
    rw[finish_region htodo ho]
    have hnd:=ha.sched.nodup
    have hinl:i ∉ l':=(List.nodup_cons.1 (List.nodup_append.1 hnd).2.1).1
    have hpre':∀ p,p ∈ pre→p.1 ∈ l'→p ∈ pre.filter fun p=>!(maskOf ops i).testBit p.1:=by
     intro p hp hpl
     refine List.mem_filter.2 ⟨hp,?_⟩
     by_cases hb:(maskOf ops i).testBit p.1=true
     ·have hin:=ha.sched.pred (maskOf_ok hb) done l' rfl
      exact absurd rfl ((List.nodup_append.1 hnd).2.2 p.1 hin p.1 (by simp [hpl]))
     ·simpa using hb
    have hsubp:∀ p,p ∈ (pre.filter fun p=>!(maskOf ops i).testBit p.1)→p ∈ pre:=fun p hp=>(List.mem_filter.1 hp).1
    refine⟨⟨hf.fn,hf.kind,hf.round,hf.defers,hf.mode,?_⟩,?_,rfl,rfl⟩
    ·rw[hr]
     simp only[Bool.false_eq_true,if_false]
     refine⟨k,hk,?_⟩
     refine RegRel.any_mk rfl (done++[i]) l' ⟨?_,?_,fun p hp=>ha.hpre p (hsubp p hp),?_,?_,fun p hp=>ha.own p (hsubp p hp),fun p hp q hq=>ha.seen p (hsubp p hp) q (hsubp q hq),
      fun p hp q hq=>ha.dsts p (hsubp p hp) q (hsubp q hq)⟩ rfl ?_ (by simp)
     ·have:=ha.sched; rwa [List.append_assoc,List.singleton_append]
     ·intro p hp
      obtain⟨h1,h2⟩:=ha.hundone p (by simp [hp])
      refine⟨?_,h2⟩
      rcases List.mem_cons.1 h1 with e | h1
      ·exact absurd e (hne p hp)
      ·exact h1
     ·intro j hj
      rcases ha.cover j (by simp [hj]) with ⟨oj,hoj⟩ | ⟨oj,hoj⟩
      ·rcases List.mem_cons.1 hoj with e | hoj
       ·simp at e; exact absurd (e.1 ▸ hj) hinl
       ·exact .inl ⟨oj,hoj⟩
      ·exact .inr ⟨oj,hpre' _ hoj hj⟩
     ·intro p hp q hq
      exact ha.apart p (by simp [hp]) q (hsubp q hq)
     ·refine har.put htm hv (fun t h1 h2 p hp hm=>?_)
      rcases List.mem_cons.1 hm with e | hm
      ·exact absurd e.symm (ha.apart (i,o) (by simp) p hp)
      ·exact h2 p (hpre' p hp hm) hm
    ·simp only[TopOK]
     exact checkPre_ok hH hG hchk
   ·simp at h
  ·simp at h
 ·-- behind a range over a function
  rename_i hrg
  obtain⟨htodo,htr⟩:=hreg.none_inv hrg
  split at h
  ·rename_i l k' htd
   simp at h; subst h
   rw[htd] at hk
   simp only[IRelL,IRel] at hk
   obtain⟨_,r,⟨b,hb,rfl⟩,hkr,rfl⟩:=hk
   have hfin:f.finish v'={ f with todo:=.endRangeFunc b::r }:=by simp [Frame.finish,htodo]
   rw[hfin]
   refine⟨⟨hf.fn,hf.kind,hf.round,hf.defers,hf.mode,?_⟩,?_,rfl,rfl⟩
   ·rw[hr]
    simp only[Bool.false_eq_true,if_false]
    exact⟨.endRangeFunc b::r,by simp only[IRelL,IRel]; exact⟨_,r,⟨b,hb,rfl⟩,hkr,rfl⟩,RegRel.none_mk hrg rfl htr⟩
   ·simp only[TopOK,hrg]
  ·rename_i k' htd
   simp at h; subst h
   rw[htd] at hk
   simp only[IRelL,IRel] at hk
   obtain⟨_,r,rfl,hkr,rfl⟩:=hk
   have hfin:f.finish v'={ f with todo:=r }:=by simp [Frame.finish,htodo]
   rw[hfin]
   refine⟨⟨hf.fn,hf.kind,hf.round,hf.defers,hf.mode,?_⟩,?_,rfl,rfl⟩
   ·rw[hr]
    simp only[Bool.false_eq_true,if_false]
    exact⟨r,hkr,RegRel.none_mk hrg rfl htr⟩
   ·simp only[TopOK,hrg]
  ·simp at h
 ·simp at h
theorem putArgs_get:∀ (args:List AV) (t:Tr AV) (i j:Nat),(enterFrame.putArgs t i args).get j=if i≤j∧j<i+args.length then args[j-i]? else t.get j
 | [],t,i,j=>by simp [enterFrame.putArgs]; omega
 | v::r,t,i,j=>by
  simp only[enterFrame.putArgs]
  rw[putArgs_get r (t.set i v) (i+1) j,Tr.get_set]
  simp only[List.length_cons]
  by_cases e:j=i
  ·subst e
   rw[if_neg (by omega),if_pos rfl,if_pos (by omega)]
   simp
  ·by_cases h:i+1≤j∧j<i+1+r.length
   ·rw[if_pos h,if_pos (by omega)]
    have:j-i=(j-(i+1))+1:=by omega
    rw[this,List.getElem?_cons_succ]
   ·rw[if_neg h,if_neg e,if_neg (by omega)]
theorem enter_ok {g:FuncId}{args:List AV}{vs:List Value}{ag:AFrame}{dfd:Bool}(hv:VRelL E args vs) (h:enterFrame P g args dfd=some ag) :
  FRel E false ag (Frame.enter P g vs.toArray (if dfd then .deferred else .normal))∧TopOK P E w ag∧ag.fn=g∧ag.returning=false∧ag.deferred=dfd:=by
 unfold enterFrame at h
 split at h
 ·rename_i fn hfn
  split at h
  ·rename_i c hc
   split at h
   ·rename_i hle
    simp at h; subst h
    refine⟨⟨rfl,by simp [Frame.enter],by simp [Frame.enter],by simp [Frame.enter,DRelL],by simp [Frame.enter],?_⟩,trivial,rfl,rfl,rfl⟩
    simp only[Bool.false_eq_true,if_false]
    refine⟨[.code c],by simp only[IRelL,IRel]; exact⟨_,[],rfl,rfl,rfl⟩,?_⟩
    have hl:=hv.length
    refine RegRel.none_mk rfl (by simp [Frame.enter,hfn,hc]) ⟨by simp [Frame.enter,hfn]; omega,fun t ht=>?_⟩
    rw[putArgs_get]
    simp only[Frame.enter,hfn,Option.map_some,Option.getD_some,List.size_toArray,Nat.zero_le,true_and,Nat.zero_add,Nat.sub_zero]
    by_cases hlt:t<args.length
    ·rw[if_pos hlt]
     obtain⟨y,hy,hr⟩:=hv.get (List.getElem?_eq_getElem hlt)
     refine⟨y,?_,by rw[List.getElem?_eq_getElem hlt]; exact hr⟩
     rw[Array.getElem?_append_left (by simpa [hl] using hlt)]
     simpa using hy
    ·rw[if_neg hlt]
     refine⟨undef,?_,by simpa [Tr.get_nil] using VRel.undef⟩
     rw[Array.getElem?_append_right (by simpa [hl] using hlt)]
     rw[Array.getElem?_replicate,if_pos (by simp only[List.size_toArray,hl]; simp only at ht; omega)]
   ·simp at h
  ·simp at h
 ·simp at h
theorem setParams_ok:∀ {ts:List Tmp}{as:List AV}{vs:List Value}{tm tm':Tr AV}{n:Nat}{tv:Array Value},TRel E tm n tv→VRelL E as vs→setParams n tm ts as=some tm' →
  TRel E tm' n ((ts.zip vs).foldl (fun tmps (t,a)=>tmps.setIfInBounds t a) tv)∧ts.length=vs.length
 | [],[],vs,tm,tm',n,tv,ht,hv,h=>by
  simp only[VRelL] at hv; subst hv
  simp [setParams] at h; subst h
  exact⟨ht,rfl⟩
 | [],_::_,vs,tm,tm',n,tv,ht,hv,h=>by simp [setParams] at h
 | _::_,[],vs,tm,tm',n,tv,ht,hv,h=>by simp [setParams] at h
 | t::ts,a::as,vs,tm,tm',n,tv,ht,hv,h=>by
  simp only[VRelL] at hv
  obtain⟨y,ys,hy,hys,rfl⟩:=hv
  simp only[setParams] at h
  split at h
  ·rename_i hlt
   have h1:TRel E (tm.set t a) n (tv.setIfInBounds t y):=by
    have:=TRel.put (dst:=some t) (v:=a) (v':=y) ht (tm':=tm.set t a) (by simp [putDst,hlt]) hy
    exact this
   obtain⟨h2,h3⟩:=setParams_ok h1 hys h
   exact⟨by simpa using h2,by simp [h3]⟩
  ·simp at h
end Go.Ev
