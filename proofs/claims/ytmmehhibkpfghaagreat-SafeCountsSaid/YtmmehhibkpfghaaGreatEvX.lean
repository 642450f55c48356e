/- Ev, part X: one step, whole. -/
import Derived.Test.YtmmehhibkpfghaaGreatEvW
set_option linter.unusedVariables false
namespace Go.Ev
variable {P:Program} {S:Start} {E:Env} {G:Ctx} {w:World}
theorem MRel.items {c:Cfg}{f:Frame}{fs:List Frame}(h:MRel P S E c f fs w) (hret:c.fr.returning=false) (hn:c.fr.reg=.none) :
  f.mode=.run∧IRelL E c.fr.todo f.todo∧TRel E c.fr.tmps c.fr.size f.tmps:=by
 obtain⟨hm,k,hk,hreg⟩:=h.top.returning_false hret
 obtain⟨h1,h2⟩:=hreg.none_inv hn
 rw[h1]; exact⟨hm,hk,h2⟩
theorem IRelL.cons_inv {a:AItem}{as:List AItem}{k:List Item}(h:IRelL E (a::as) k):∃ i r,IRel E a i∧IRelL E as r∧k=i::r:=h
theorem IRelL.mk {a:AItem}{as:List AItem}{i:Item}{r:List Item}(h:IRel E a i) (hr:IRelL E as r):IRelL E (a::as) (i::r):=⟨i,r,h,hr,rfl⟩
theorem EffOK.trans {E1 E2:Env}{H H1 H2:AHeap}{w1 w2:World}(h1:EffOK E H w E1 H1 w1) (h2:EffOK E1 H1 w1 E2 H2 w2):EffOK E H w E2 H2 w2 where
 le:=h1.le.trans h2.le
 rel:=h2.rel
 kept:=⟨h2.kept.os.trans h1.kept.os,h2.kept.tape.trans h1.kept.tape,h2.kept.output.trans h1.kept.output,Nat.le_trans h1.kept.size h2.kept.size,fun b hb hn=>by
  rw[h2.kept.block b (Nat.lt_of_lt_of_le hb h1.kept.size) (fun hl=>by
   rcases h1.live b hl with x | x
   ·exact hn x
   ·omega),h1.kept.block b hb hn]⟩
 live:=fun a ha=>by
  rcases h2.live a ha with x | x
  ·exact h1.live a x
  ·have:=h1.kept.size; exact .inr (by omega)
 draws:=rfl
theorem ret_ok (hG:G.Ok E) {c:Cfg}{f:Frame}{fs:List Frame}(h:MRel P S E c f fs w) (hret:c.fr.returning=true) :
  OutSpec P S E (lone f (fs++S.cs) w) (stepA P G c):=by
 have hm:=h.top.mode
 rw[hret] at hm
 simp only[if_true] at hm
 have hb:=h.top.body
 rw[hret] at hb
 simp only[if_true] at hb
 have hd:=h.top.defers
 unfold stepA
 simp only[hret,if_true]
 split
 ·rename_i hds
  rw[hds] at hd
  simp only[DRelL] at hd
  split
  case h_2=>trivial
  rename_i v hv
  obtain⟨fn,v',h1,h2,h3⟩:=result_ok (P:=P) h.heap h.top.fn hb hv
  split
  ·rename_i hdef
   have hk:f.kind=.deferred:=by
    have:=h.top.kind
    simpa [hdef] using this
   split
   ·rename_i g rest hc
    have hcs:=h.callers
    rw[hc,hdef] at hcs
    obtain⟨gf,fs',hg,hgr,hrest,rfl⟩:=hcs
    have hgm:gf.mode=.returning:=by
     have:=hg.mode
     simpa [hgr] using this
    refine⟨E,gf,fs',w,Env.le.refl E,Steps.one (stF_returnDef hm hd hk h1 h2 hgm),⟨⟨hg.fn,hg.kind,hg.round,hg.defers,hg.mode,?_⟩,?_,hrest,h.heap,h.keep,h.live,?_⟩⟩
    ·have:=hg.body
     rw[hgr] at this
     simp only[if_true] at this
     simp only[hgr,if_true]; exact this
    ·simp only[TopOK]
    ·rw[← h.bot]
     unfold botFn
     simp only[hc]
     rw[getLast_cons]
     cases rest with
     | nil=>rfl
     | cons x l =>
      cases hx:(x::l).getLast? with
      | none=>simp at hx
      | some y=>rfl
   ·trivial
  ·rename_i hdef
   have hk:f.kind=.normal:=by
    have:=h.top.kind
    simpa [hdef] using this
   refine handBack_ok (f:=f) (fs:=fs) (v':=v') hG (by have:=h.callers; rwa [show c.fr.deferred=false by simpa using hdef] at this) h.heap h.keep h.live h.bot h3 ?_ ?_
   ·intro g rest hfs
    subst hfs
    exact Steps.one (stF_return hm hd hk h1 h2)
   ·intro hfs
    subst hfs
    exact⟨Steps.refl P _,h.top.fn,hm,hd,hk,fn,h1,h2⟩
 ·rename_i b ds hds
  rw[hds] at hd
  obtain⟨x,r,⟨a,ha,rfl⟩,hr,hfd⟩:=hd
  split
  ·rename_i l hl
   obtain⟨a',ob,ha',hob,hbr⟩:=h.heap.blk b _ hl
   have e:a'=a:=by rw[ha] at ha'; simpa using ha'.symm
   subst e
   obtain⟨ds',hds',rfl⟩:=hbr
   have hrun:(Instr.takeDeferred a').run P w=.ok ds' { w with heap:=w.heap.setIfInBounds a' (.deferred none) }:=by
    simp only[Instr.takeDeferred,Sem.run_bind,run_getObj_ok hob (by simp),Result.andThen_ok,Sem.run_pure,run_setObj_ok hob (by simp)]
   have heff:=set_obj (b':=.deferred none) (o':=.deferred none) h.heap hl ha rfl
   refine⟨E,{ f with defers:=ds'++r },fs,_,Env.le.refl E,Steps.one (stF_collected hm hfd hrun),⟨⟨h.top.fn,h.top.kind,h.top.round,hds'.append hr,(by simp only[if_true]; exact hm),?_⟩,trivial,h.callers,heff.rel,h.keep.kept heff.kept h.live,live_eff h.keep heff h.live,h.botTop rfl⟩⟩
   simp only[if_true]; exact hb
  ·trivial
 ·rename_i g args ds hds
  rw[hds] at hd
  obtain⟨x,r,⟨vs,ca,hargs,rfl⟩,hr,hfd⟩:=hd
  split
  case h_2=>trivial
  rename_i g' as hcall
  split
  case h_2=>trivial
  rename_i e he
  have hok:=callFunc_OK (P:=P) (f:=g) h.heap hG hargs
  rw[hcall] at hok
  obtain⟨us,hus,hrun⟩:=hok
  obtain⟨k1,k2,k3,k4,k5⟩:=enter_ok (w:=w) hus he
  have hinv:(invoke (.fn (.func g) ca.toArray) vs.toArray).run P w=.ok (.enter g' us.toArray) w:=by
   simpa [invoke] using hrun
  refine⟨E,_,{ f with defers:=r }::fs,w,Env.le.refl E,Steps.one (stF_callDef (d:={ target:=.fn (.func g) ca.toArray,args:=vs.toArray }) hm hfd rfl hinv),⟨k1,k2,?_,h.heap,h.keep,h.live,?_⟩⟩
  ·refine⟨{ f with defers:=r },fs,⟨h.top.fn,h.top.kind,h.top.round,hr,by simp only[if_true]; exact hm,?_⟩,by rw[k5],h.callers,rfl⟩
   simp only[if_true]; exact hb
  ·exact(botFn_push (c:=c) { c.fr with defers:=ds,returning:=true } rfl).trans h.bot
theorem ctl_ok (hP:P.follows .mixedOrders=true) (hG:G.Ok E) {c:Cfg}{f:Frame}{fs:List Frame}(h:MRel P S E c f fs w) (hret:c.fr.returning=false) (hn:c.fr.reg=.none) :
  OutSpec P S E (lone f (fs++S.cs) w) (stepA P G c):=by
 obtain⟨⟨fn0,tmps0,size0,reg0,todo0,defers0,returning0,deferred0,round0⟩,callers0,heap0⟩:=c
 simp only at hret hn
 subst hret
 subst hn
 have hret:(false:Bool)=false:=rfl
 have hn:AReg.none=AReg.none:=rfl
 obtain⟨hm,hI,hT⟩:=h.items rfl rfl
 have one:∀ {ai:List AItem} {k:List Item},IRelL E ai k→step P (lone f (fs++S.cs) w)=.next (lone { f with todo:=k } (fs++S.cs) w) →
   OutSpec P S E (lone f (fs++S.cs) w) (.next { fr:={ fn:=fn0,tmps:=tmps0,size:=size0,reg:=.none,todo:=ai,defers:=defers0,returning:=false,deferred:=deferred0,round:=round0 },callers:=callers0,heap:=heap0 }):=fun hk hs =>
  ⟨E,_,fs,w,Env.le.refl E,Steps.one hs,h.to rfl hk rfl⟩
 unfold stepA
 simp only[Bool.false_eq_true,if_false]
 simp only at hI hT
 have ev:∀ {x:Operand},okIn size0 x=true→VRel E (evalA tmps0 x) (f.eval x):=by
  intro x hx
  simp only[okIn,Bool.and_eq_true] at hx
  refine eval_ok (fun t ht=>?_) hx.1
  have hl:t<size0:=by have:=hx.2; rw[ht] at this; simpa using this
  obtain⟨u,hu,hr⟩:=hT.2 t hl
  have:f.tmps.getD t undef=u:=by simp [Array.getD_eq_getD_getElem?,hu]
  rw[this]; exact hr
 split
 ·-- the end
  exact leave_ok hG h rfl none (.inl ⟨hI,rfl⟩) rfl
 ·rename_i k
  obtain⟨i,r,hi,hr,ht⟩:=hI.cons_inv
  subst hi
  exact leave_ok hG h rfl (some .ret) (.inr (.inl ⟨r,ht,rfl⟩)) rfl
 ·rename_i k
  obtain⟨i,r,hi,hr,ht⟩:=hI.cons_inv
  subst hi
  exact one hr (stF_skip hm ht)
 ·rename_i l k
  obtain⟨i,r,hi,hr,ht⟩:=hI.cons_inv
  subst hi
  exact one hr (stF_label hm ht)
 ·rename_i l k
  obtain⟨i,r,hi,hr,ht⟩:=hI.cons_inv
  subst hi
  exact one hr (stF_inBlock hm ht)
 ·rename_i l k
  obtain⟨i,r,hi,hr,ht⟩:=hI.cons_inv
  subst hi
  exact one hr (stF_inScope hm ht)
 ·rename_i a b k
  obtain⟨i,r,hi,hr,ht⟩:=hI.cons_inv
  subst hi
  exact one (IRelL.mk (rfl:IRel E (.code _) (.code _)) (IRelL.mk rfl hr)) (stF_seq hm ht)
 ·rename_i x a b k
  obtain⟨i,r,hi,hr,ht⟩:=hI.cons_inv
  subst hi
  split
  ·rename_i hx
   split
   ·rename_i s hs
    have hv:=ev hx
    rw[hs] at hv
    simp only[VRel] at hv
    split
    ·rename_i t hst
     have:=SB.know_ok hG hst
     refine one (IRelL.mk rfl hr) (stF_cond hm ht (t:=t) (by rw[hv,this]))
    ·trivial
   ·trivial
  ·trivial
 ·rename_i id b k
  obtain⟨i,r,hi,hr,ht⟩:=hI.cons_inv
  subst hi
  exact one (IRelL.mk (rfl:IRel E (.code _) (.code _)) (IRelL.mk rfl hr)) (stF_block hm ht)
 ·rename_i b k
  obtain⟨i,r,hi,hr,ht⟩:=hI.cons_inv
  subst hi
  exact one (IRelL.mk (rfl:IRel E (.code _) (.code _)) (IRelL.mk rfl hr)) (stF_loop hm ht)
 ·rename_i b k
  obtain⟨i,r,hi,hr,ht⟩:=hI.cons_inv
  subst hi
  exact one (IRelL.mk (rfl:IRel E (.code _) (.code _)) (IRelL.mk rfl hr)) (stF_inLoop hm ht)
 ·rename_i b k
  obtain⟨i,r,hi,hr,ht⟩:=hI.cons_inv
  subst hi
  exact one (IRelL.mk (rfl:IRel E (.code _) (.code _)) (IRelL.mk rfl hr)) (stF_scope hm ht)
 ·rename_i id k
  obtain⟨i,r,hi,hr,ht⟩:=hI.cons_inv
  subst hi
  have hx:=exitA_ok (id:=id) hr
  split
  ·rename_i k' hk'
   rw[hk'] at hx
   obtain⟨k2,h1,h2⟩:=hx
   exact one h2 (stF_exit hm ht h1)
  ·rename_i hk'
   rw[hk'] at hx
   exact leave_ok hG h rfl (some (.exit id)) (.inr (.inr ⟨id,r,ht,hx,rfl⟩)) rfl
 ·-- a region
  rename_i id ops draw k
  obtain⟨i,r,hi,hr,ht⟩:=hI.cons_inv
  subst hi
  split
  ·rename_i hd
   subst hd
   split
   ·rename_i hE
    have hsch:=schedule_ok hE (w.tape w.drawn (.order f.fn id))
    refine⟨E,{ f with todo:=.inRegion ops (Region.schedule true ops (w.tape w.drawn (.order f.fn id)))::r },fs,w.drew,Env.le.refl E,Steps.one (by have:=stF_draw (P:=P) (cs:=fs++S.cs) (w:=w) hm ht; rwa [hP] at this),
     ⟨⟨h.top.fn,h.top.kind,h.top.round,h.top.defers,h.top.mode,?_⟩,?_,h.callers,?_,?_,h.live,h.botTop rfl⟩⟩
    ·simp only[Bool.false_eq_true,if_false]
     refine⟨r,hr,RegRel.any_mk rfl [] _ ⟨by simpa using hsch,?_,by simp,?_,by simp,by simp,by simp,by simp⟩ rfl ⟨hT.1,fun t htl _=>hT.2 t htl⟩ (by simp)⟩
     ·intro p hp
      obtain⟨q,hq,rfl⟩:=List.mem_map.1 hp
      have hq2:ops.toList[q.2]?=some q.1:=List.mem_zipIdx_iff_getElem?.1 hq
      have hq3:ops[q.2]?=some q.1:=by simpa using hq2
      refine⟨hsch.all _ ?_,hq3⟩
      exact(Array.getElem?_eq_some_iff.1 hq3).1
     ·intro j hj
      have hjl:=hsch.lt j hj
      refine .inl ⟨ops[j],List.mem_map.2 ⟨(ops[j],j),List.mem_zipIdx_iff_getElem?.2 (by simp [hjl]),rfl⟩⟩
    ·simp only[TopOK]; simp
    ·exact h.heap.drawn _
    ·exact⟨h.keep.os,h.keep.tape,h.keep.output,h.keep.size,h.keep.block⟩
   ·trivial
  ·rename_i hd
   have hd:draw=false:=by simpa using hd
   subst hd
   refine⟨E,_,fs,w,Env.le.refl E,Steps.one (stF_region hm ht),⟨⟨h.top.fn,h.top.kind,h.top.round,h.top.defers,h.top.mode,?_⟩,trivial,h.callers,h.heap,h.keep,h.live,h.botTop rfl⟩⟩
   simp only[Bool.false_eq_true,if_false]
   refine⟨r,hr,RegRel.seq_mk rfl (by simp) (by simp [List.range_eq_range']) hT⟩
 ·-- a range over a function
  rename_i x params assign body k
  obtain⟨i,r,hi,hr,ht⟩:=hI.cons_inv
  subst hi
  have hro:=h.top.round
  split
  ·rename_i hx
   split
   ·trivial
   ·have hv:=ev hx
    have hle1:E.le (E.ext heap0.next w.heap.size 0):=Env.le_ext (h.heap.fresh _ (Nat.le_refl _))
    have hE1:=EffOK.new (w:=w) h.heap 0 (b:=.deferred (some [])) (o:=.deferred (some [])) ⟨[],by simp [DRelL],rfl⟩
    have hle2:(E.ext heap0.next w.heap.size 0).le ((E.ext heap0.next w.heap.size 0).ext (heap0.new (.deferred (some []))).next (w.heap.push (.deferred (some []))).size 0) :=
     Env.le_ext (hE1.rel.fresh _ (Nat.le_refl _))
    have hloc:(E.ext heap0.next w.heap.size 0).loc heap0.next=some w.heap.size:=by simp [Env.ext]
    have hE2:=EffOK.new (w:={ w with heap:=w.heap.push (.deferred (some [])) }) hE1.rel 0 (b:=.loop .ready none fn0 tmps0 size0 params assign body heap0.next)
     (o:=.loop { state:=.ready,pending:=none,fn:=fn0,tmps:=f.tmps,params,assign,body,defers:=w.heap.size }) ⟨f.tmps,w.heap.size,(hT.le hle1).le hle2,hle2.loc _ _ hloc,rfl⟩
    have heff:=hE1.trans hE2
    have hloc2:((E.ext heap0.next w.heap.size 0).ext (heap0.new (.deferred (some []))).next (w.heap.push (.deferred (some []))).size 0).loc (heap0.new (.deferred (some []))).next=some (w.heap.push (.deferred (some []))).size:=by simp [Env.ext]
    have hinv:=invoke_OK (P:=P) (args:=[.yieldF (heap0.new (.deferred (some []))).next]) (vs:=[.func (.yield (w.heap.push (.deferred (some []))).size) #[] #[]]) heff.rel (hG.le heff.le) (hv.le heff.le)
     (VRelL.cons (by simp only[VRel]; exact⟨_,hloc2,rfl⟩) VRelL.nil)
    have hfn:f.fn=fn0:=h.top.fn
    have hmk:(Instr.enterLoop f.fn f.tmps params assign body none).run P w=.ok ((w.heap.push (.deferred (some []))).size,[{ target:=.collected w.heap.size,args:=#[] }])
      {w with heap:=(w.heap.push (.deferred (some []))).push (.loop { state:=.ready,pending:=none,fn:=fn0,tmps:=f.tmps,params,assign,body,defers:=w.heap.size }) }:=by
     rw[hfn]
     simp [Instr.enterLoop,newObj,Sem.run]
     rfl
    split
    ·rename_i g args heq
     rw[heq] at hinv
     obtain⟨vs,hvs,hrun⟩:=hinv
     split
     ·rename_i ag hag
      obtain⟨h1,h2,h3,h4,h5⟩:=enter_ok (w:={ w with heap:=(w.heap.push (.deferred (some []))).push (.loop { state:=.ready,pending:=none,fn:=fn0,tmps:=f.tmps,params,assign,body,defers:=w.heap.size }) }) hvs hag
      refine⟨_,_,_::fs,_,heff.le,Steps.one (stF_rangeFunc hm hro ht hmk hrun),⟨h1,h2,⟨{ f with todo:=.inRangeFunc (w.heap.push (.deferred (some []))).size::r,defers:=[{ target:=.collected w.heap.size,args:=#[] }]++f.defers },fs,⟨h.top.fn,h.top.kind,hro,⟨_,_,⟨w.heap.size,hle2.loc _ _ hloc,rfl⟩,h.top.defers.le heff.le,rfl⟩,h.top.mode,?_⟩,h5.symm,h.callers.le heff.le,rfl⟩,heff.rel,h.keep.kept heff.kept h.live,live_eff h.keep heff h.live,?_⟩⟩
      ·simp only[Bool.false_eq_true,if_false]
       exact⟨_,IRelL.mk ⟨_,hloc2,rfl⟩ (hr.le heff.le),RegRel.none_mk rfl rfl (hT.le heff.le)⟩
      ·refine Eq.trans ?_ h.bot
       exact botFn_push (c:=⟨⟨fn0,tmps0,size0,.none,.code (.rangeFunc x params assign body)::k,defers0,false,deferred0,none⟩,callers0,heap0⟩) ⟨fn0,tmps0,size0,.none,.inRangeFunc (heap0.new (.deferred (some []))).next::k,.collected heap0.next::defers0,false,deferred0,none⟩ rfl
     ·trivial
    ·trivial
  ·trivial
 ·-- a round begins
  rename_i k
  obtain⟨i,r,hi,hr,ht⟩:=hI.cons_inv
  subst hi
  have hro:=h.top.round
  split
  ·rename_i l
   obtain⟨a,ha,hfr⟩:=hro
   split
   ·rename_i p fn tmps size params assign body ds hloop
    obtain⟨a',ob,ha',hob,hbr⟩:=h.heap.blk l _ hloop
    have e:a'=a:=by rw[ha] at ha'; simpa using ha'.symm
    subst e
    obtain⟨tv,d,htv,hd,rfl⟩:=hbr
    have hrun:(Instr.beginRound a').run P w=.ok () { w with heap:=w.heap.setIfInBounds a' (.loop { state:=.busy,pending:=p,fn,tmps:=tv,params,assign,body,defers:=d }) }:=by
     simp only[Instr.beginRound,Instr.getLoop,Sem.run_bind,run_getObj_ok hob (by simp),Result.andThen_ok,Sem.run_pure,run_setObj_ok hob (by simp)]
    have heff:=set_obj (b':=.loop .busy p fn tmps size params assign body ds) (o':=.loop { state:=.busy,pending:=p,fn,tmps:=tv,params,assign,body,defers:=d }) h.heap hloop ha ⟨tv,d,htv,hd,rfl⟩
    refine⟨E,{ f with todo:=r },fs,_,Env.le.refl E,Steps.one (stF_beginRound hm hfr ht hrun),⟨⟨h.top.fn,h.top.kind,h.top.round,h.top.defers,h.top.mode,?_⟩,?_,h.callers,heff.rel,h.keep.kept heff.kept h.live,live_eff h.keep heff h.live,h.botTop rfl⟩⟩
    ·simp only[Bool.false_eq_true,if_false]
     exact⟨r,hr,RegRel.none_mk rfl rfl hT⟩
    ·simp only[TopOK]
   ·trivial
  ·trivial
 ·-- behind the rounds
  rename_i l k
  obtain⟨i,r,hi,hr,ht⟩:=hI.cons_inv
  obtain⟨a,ha,rfl⟩:=hi
  split
  ·rename_i st p fn tmps size params assign body ds hloop
   obtain⟨a',ob,ha',hob,hbr⟩:=h.heap.blk l _ hloop
   have e:a'=a:=by rw[ha] at ha'; simpa using ha'.symm
   subst e
   obtain⟨tv,d,htv,hd,rfl⟩:=hbr
   split
   ·trivial
   ·rename_i hst
    have hst':(st == LoopState.busy)=false:=by cases st <;> simp_all
    have hrun:(Instr.endLoop a').run P w=.ok p { w with heap:=w.heap.setIfInBounds a' (.loop { state:=.exhausted,pending:=p,fn,tmps:=tv,params,assign,body,defers:=d }) }:=by
     simp only[Instr.endLoop,Instr.getLoop,Sem.run_bind,run_getObj_ok hob (by simp),Result.andThen_ok,Sem.run_pure,hst']
     simp [run_setObj_ok hob]
    have heff:=set_obj (b':=.loop .exhausted p fn tmps size params assign body ds) (o':=.loop { state:=.exhausted,pending:=p,fn,tmps:=tv,params,assign,body,defers:=d }) h.heap hloop ha ⟨tv,d,htv,hd,rfl⟩
    refine⟨E,{ f with todo:=(p.map Item.code).toList++r },fs,_,Env.le.refl E,Steps.one (stF_endRange hm ht hrun),⟨⟨h.top.fn,h.top.kind,h.top.round,h.top.defers,h.top.mode,?_⟩,?_,h.callers,heff.rel,h.keep.kept heff.kept h.live,live_eff h.keep heff h.live,h.botTop rfl⟩⟩
    ·simp only[Bool.false_eq_true,if_false]
     refine⟨(p.map Item.code).toList++r,?_,RegRel.none_mk rfl rfl hT⟩
     cases p with
     | none=>simpa using hr
     | some j=>exact⟨_,_,rfl,hr,rfl⟩
    ·simp only[TopOK]
  ·trivial
 ·trivial
theorem stepA_ok (hP:P.follows .mixedOrders=true) (hG:G.Ok E) {c:Cfg}{f:Frame}{fs:List Frame}(h:MRel P S E c f fs w) :
  OutSpec P S E (lone f (fs++S.cs) w) (stepA P G c):=by
 cases hret:c.fr.returning with
 | true=>exact ret_ok hG h hret
 | false =>
  cases hreg:c.fr.reg with
  | none=>exact ctl_ok hP hG h hret hreg
  | any ops undone pre =>
   cases undone with
   | nil =>
    have:=any_end h hret hreg
    unfold stepA
    simpa only[hret,hreg,Bool.false_eq_true,if_false] using this
   | cons p u =>
    have:=anyGo_ok hG h hret hreg (by simp) ((p::u).filter fun q=>enabledA (p::u) q.2) [] (fun q hq=>(List.mem_filter.1 hq).1) (fun q hq he=>.inl (List.mem_filter.2 ⟨hq,he⟩)) (by simp)
    unfold stepA
    simpa only[hret,hreg,Bool.false_eq_true,if_false] using this
  | seq ops i rest =>
   obtain⟨hm,k,hk,hrr⟩:=h.top.returning_false hret
   obtain⟨hrest,ht,hT⟩:=hrr.seq_inv hreg
   cases rest with
   | nil =>
    have:OutSpec P S E (lone f (fs++S.cs) w) (.next { c with fr:={ c.fr with reg:=.none } }):=by
     refine⟨E,{ f with todo:=k },fs,w,Env.le.refl E,Steps.one (stF_pop hm ht),⟨⟨h.top.fn,h.top.kind,h.top.round,h.top.defers,h.top.mode,?_⟩,trivial,h.callers,h.heap,h.keep,h.live,h.botTop rfl⟩⟩
     rw[hret]
     simp only[Bool.false_eq_true,if_false]
     exact⟨k,hk,RegRel.none_mk rfl rfl hT⟩
    unfold stepA
    simpa only[hret,hreg,Bool.false_eq_true,if_false] using this
   | cons o rest =>
    have ho:ops[i]?=some o:=by
     have:=congrArg (·[0]?) hrest
     simpa using this.symm
    have ht':f.todo=.inRegion ops (i::List.range' (i+1) rest.length)::k:=by rw[ht]; simp [List.range'_succ]
    have hf:FRel E true c.fr f:=by
     refine⟨h.top.fn,h.top.kind,h.top.round,h.top.defers,h.top.mode,?_⟩
     rw[hret]
     simp only[Bool.false_eq_true,if_false]
     exact⟨k,hk,RegRel.seq_mk hreg hrest ht hT⟩
    have:OutSpec P S E (lone f (fs++S.cs) w) (applyOut P G c c.fr (runOp P G c.heap c.fr.size ops c.fr.tmps o)):=by
     by_cases hnf:∃ s,runOp P G c.heap c.fr.size ops c.fr.tmps o=.fail s
     ·obtain⟨s,hs⟩:=hnf; rw[hs]; trivial
     by_cases hnk:∃ b,runOp P G c.heap c.fr.size ops c.fr.tmps o=.fork b
     ·obtain⟨b,hb⟩:=hnk; rw[hb]; trivial
     have hok:readsOk c.fr.size ops o=true:=by
      refine Decidable.byContradiction fun hno => hnf ⟨ "operand", ?_⟩
      unfold runOp; rw[if_neg hno]
     have hr:=runOp_ok (P:=P) (f:=f) h.heap hG (fun t ht=>by
      have hl:t<c.fr.size:=by
       simp only[readsOk,Bool.and_eq_true] at hok
       exact of_decide_eq_true (List.all_eq_true.1 hok.2 t ht)
      obtain⟨u,hu,hr⟩:=hT.2 t hl
      have:f.tmps.getD t undef=u:=by simp [Array.getD_eq_getD_getElem?,hu]
      rw[this]; exact hr) hT.1 rfl (fun s hs=>hnf ⟨s,hs⟩) (fun b hb=>hnk ⟨b,hb⟩)
     exact applyOut_ok hG hf hret rfl rfl ht' ho hr.2 h.callers h.heap h.keep h.live h.bot
    unfold stepA
    simpa only[hret,hreg,Bool.false_eq_true,if_false] using this
theorem MRel.refine (hG:G.Ok E) {c:Cfg}{f:Frame}{fs:List Frame}(h:MRel P S E c f fs w):MRel P S E (c.refine G) f fs w:=by
 unfold Cfg.refine
 split
 ·exact h
 ·obtain⟨h1,h2⟩:=h.heap.refine hG
  exact⟨h.top,h.floats,h.callers,h1,h.keep,fun a ha=>h.live a (h2 a ha),h.bot⟩
def EndSpec (P:Program) (S:Start) (E:Env) (m:Machine) (ok:AV→AHeap→Bool):Prop :=
 ∃ E' v H f w v',ok v H=true∧E.le E'∧Steps P m (lone f S.cs w)∧f.fn=S.fn∧f.leaving P w (.returned v')∧VRel E' v v'∧HRel E' H w∧Keep S.A S.w w
theorem EndSpec.of {E':Env}{m m':Machine}{ok:AV→AHeap→Bool}(hE:E.le E') (hs:Steps P m m') (h:EndSpec P S E' m' ok):EndSpec P S E m ok:=by
 obtain⟨E2,v,H,f,w,v',h1,h2,h3,h4⟩:=h
 exact⟨E2,v,H,f,w,v',h1,hE.trans h2,hs.trans h3,h4⟩
theorem explore_ok (hP:P.follows .mixedOrders=true) {ok:AV→AHeap→Bool}:∀ (n:Nat) {G:Ctx}{E:Env}{c:Cfg}{f:Frame}{fs:List Frame}{w:World},G.Ok E→MRel P S E c f fs w →
  explore P ok n G c=true→EndSpec P S E (lone f (fs++S.cs) w) ok
 | 0,_,_,_,_,_,_,_,_,h=>by simp [explore] at h
 | n+1,G,E,c,f,fs,w,hG,hM,h=>by
  have hst:=stepA_ok hP hG hM
  unfold explore at h
  split at h
  ·rename_i c' hc
   rw[hc] at hst
   obtain⟨E',f',fs',w',h1,h2,h3⟩:=hst
   exact(explore_ok hP n (hG.le h1) h3 h).of h1 h2
  ·rename_i l hc
   rw[hc] at hst
   obtain⟨c',hc',E',f',fs',w',h1,h2,h3⟩:=hst
   exact(explore_ok hP n (hG.le h1) h3 (List.all_eq_true.1 h c' hc')).of h1 h2
  ·rename_i b hc
   simp only[Bool.and_eq_true] at h
   cases hb:b.den E with
   | true=>exact explore_ok hP n (hG.cons hb) (hM.refine (hG.cons hb)) h.1
   | false=>exact explore_ok hP n (hG.cons hb) (hM.refine (hG.cons hb)) h.2
  ·rename_i v H hc
   rw[hc] at hst
   obtain⟨E',f',w',v',h0,h1,h2,h3,h4,h5,h6⟩:=hst
   exact⟨E',v,H,f',w',v',h,h0,h1,h2,h3,h4,h5,h6⟩
  ·simp at h
end Go.Ev
