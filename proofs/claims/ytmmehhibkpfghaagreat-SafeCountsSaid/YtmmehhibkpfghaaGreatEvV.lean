/- Ev, part V: one step of the evaluator, whole. -/
import Derived.Test.YtmmehhibkpfghaaGreatEvU
set_option linter.unusedVariables false
namespace Go.Ev
variable {P:Program} {S:Start} {E:Env} {G:Ctx} {w:World}
theorem handBack_ok (hG:G.Ok E) {c:Cfg}{m:Machine}{f:Frame}{fs:List Frame}{v:AV}{v':Value}(hcs:CRelL E false c.callers fs) (hH:HRel E c.heap w) (hK:Keep S.A S.w w)
  (hL:∀ a,Live E c.heap a→S.A a∨S.w.heap.size≤a) (hB:botFn c=S.fn) (hv:VRel E v v')
  (hstep:∀ g rest,fs=g::rest→Steps P m (lone (g.finish v') (rest++S.cs) w))
  (hend:fs=[]→Steps P m (lone f S.cs w)∧f.fn=c.fr.fn∧f.leaving P w (.returned v')) :
  OutSpec P S E m (handBack P G c v):=by
 unfold handBack
 split
 ·rename_i hc
  rw[hc] at hcs
  simp only[CRelL] at hcs
  obtain⟨h1,h2,h3⟩:=hend hcs
  refine⟨E,f,w,v',Env.le.refl E,h1,?_,h3,hv,hH,hK⟩
  rw[h2,← hB]
  simp [botFn,hc]
 ·rename_i g rest hc
  rw[hc] at hcs
  obtain⟨gf,fs',hg,hr,hrest,rfl⟩:=hcs
  split
  ·rename_i g' hfin
   obtain⟨h1,h2,h3,h4⟩:=finishA_ok (P:=P) hH hG hg hr hv hfin
   refine⟨E,_,fs',w,Env.le.refl E,hstep gf fs' rfl,⟨h1,h2,by rw[h4]; exact hrest,hH,hK,hL,?_⟩⟩
   rw[← hB]
   unfold botFn
   simp only[hc]
   rw[getLast_cons]
   cases rest with
   | nil=>simpa using h3
   | cons x l =>
    cases hx:(x::l).getLast? with
    | none=>simp at hx
    | some y=>rfl
  ·trivial
theorem run_getObj_ok {P:Program}{w:World}{a:Nat}{o:Obj}(h:w.heap[a]?=some o) (hn:∀ c e z,o≠.cells c e z):(getObj a).run P w=.ok o w:=by
 simp only[getObj,Sem.run,h]
theorem leave_ok (hG:G.Ok E) {c:Cfg}{f:Frame}{fs:List Frame}(h:MRel P S E c f fs w) (hret:c.fr.returning=false) (jump:Option Code)
  (ht:(f.todo=[]∧jump=none)∨(∃ k,f.todo=.code .ret::k∧jump=some .ret)∨(∃ id k,f.todo=.code (.exit id)::k∧exitTo id k=none∧jump=some (.exit id)))
  (hn:c.fr.reg=.none):OutSpec P S E (lone f (fs++S.cs) w) (leaveA P G c jump):=by
 obtain⟨hm,k0,hk0,hreg⟩:=h.top.returning_false hret
 obtain⟨_,htr⟩:=hreg.none_inv hn
 unfold leaveA
 simp only
 have plain:c.fr.round=none→((f.todo=[]∧jump=none)∨(∃ k,f.todo=.code .ret::k∧jump=some .ret)) →
   OutSpec P S E (lone f (fs++S.cs) w) (.next { c with fr:={ c.fr with returning:=true } }):=by
  intro hr ht
  have hro:=h.top.round
  rw[hr] at hro
  have hst:step P (lone f (fs++S.cs) w)=.next (lone { f with mode:=.returning } (fs++S.cs) w):=by
   rcases ht with ⟨ht,_⟩ | ⟨k,ht,_⟩
   ·exact stF_end hm hro ht
   ·exact stF_ret hm hro ht
  refine⟨E,{ f with mode:=.returning },fs,w,Env.le.refl E,Steps.one hst,⟨⟨h.top.fn,h.top.kind,h.top.round,h.top.defers,by simp,?_⟩,?_,h.callers,h.heap,h.keep,h.live,?_⟩⟩
  ·simp only[if_true]; exact htr
  ·simp only[TopOK,hn]
  ·exact(botFn_top (c:=c) (g:={ c.fr with returning:=true }) (H:=c.heap) rfl).trans h.bot
 split
 ·rename_i hr
  split
  ·refine plain hr ?_
   rcases ht with ⟨ht,_⟩ | ⟨k,ht,h2⟩ | ⟨id,k,_,_,h2⟩
   ·exact .inl ⟨ht,rfl⟩
   ·simp at h2
   ·simp at h2
  ·refine plain hr ?_
   rcases ht with ⟨_,h2⟩ | ⟨k,ht,_⟩ | ⟨id,k,_,_,h2⟩
   ·simp at h2
   ·exact .inr ⟨k,ht,rfl⟩
   ·simp at h2
  ·trivial
 ·rename_i l hr
  have hro:=h.top.round
  rw[hr] at hro
  obtain⟨b,hb,hfr⟩:=hro
  split
  ·rename_i st p fn tmps size params assign body ds hloop
   split
   ·rename_i x xs hc
    split
    ·trivial
    ·rename_i hdef
     have hkind:f.kind=.normal:=by
      have:=h.top.kind
      simpa [hdef] using this
     obtain⟨a,ob,ha,hob,hbr⟩:=h.heap.blk l _ hloop
     have e:a=b:=by rw[hb] at ha; simpa using ha.symm
     subst e
     obtain⟨tv,d,htv,hd,rfl⟩:=hbr
     have hrun:(Instr.endRound a jump).run P w=.ok (.bool jump.isNone) { w with heap:=w.heap.setIfInBounds a (.loop { state:=if jump.isNone then .ready else .done,pending:=jump,fn,tmps:=tv,params,assign,body,defers:=d }) }:=by
      simp only[Instr.endRound,Instr.getLoop,Sem.run_bind,run_getObj_ok hob (by simp),Result.andThen_ok,Sem.run_pure,run_setObj_ok hob (by simp)]
     have heff:=set_obj (b':=.loop (if jump.isNone then .ready else .done) jump fn tmps size params assign body ds)
      (o':=.loop { state:=if jump.isNone then .ready else .done,pending:=jump,fn,tmps:=tv,params,assign,body,defers:=d }) h.heap hloop hb
      ⟨tv,d,htv,hd,rfl⟩
     have hK':=h.keep.kept heff.kept h.live
     have hL':=live_eff h.keep heff h.live
     refine handBack_ok (f:=f) (fs:=fs) (v':=.bool jump.isNone) hG (by have:=h.callers; rwa [show c.fr.deferred=false by simpa using hdef] at this) heff.rel hK' hL' ((botFn_top (c:=c) (g:=c.fr) rfl).trans h.bot) (VRel.bool_mk rfl) ?_ ?_
     ·intro g rest hfs
      subst hfs
      exact Steps.one (stF_leave hm hfr hkind ht hrun)
     ·intro hfs
      exfalso
      have hcl:=h.callers
      rw[hc,hfs] at hcl
      obtain⟨_,_,_,_,_,hcl⟩:=hcl
      simp at hcl
   ·trivial
  ·trivial
end Go.Ev
