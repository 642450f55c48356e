/- Ev, part R: values laid down, floating operations. -/
import Derived.Test.YtmmehhibkpfghaaGreatEvQ
set_option linter.unusedVariables false
namespace Go.Ev
variable {P:Program} {E:Env} {G:Ctx} {H:AHeap} {w:World}
theorem TRel.put {tm tm':Tr AV}{n:Nat}{tv:Array Value}{dst:Option Tmp}{v:AV}{v':Value}(h:TRel E tm n tv) (hp:putDst n tm dst v=some tm') (hv:VRel E v v') :
  TRel E tm' n (putV tv dst v'):=by
 cases dst with
 | none=>simp [putDst] at hp; subst hp; exact h
 | some d =>
  simp only[putDst] at hp
  split at hp
  ·rename_i hd
   simp at hp; subst hp
   refine⟨by simp [putV,h.1],fun t ht=>?_⟩
   rw[Tr.get_set]
   by_cases e:t=d
   ·subst e
    refine⟨v',?_,by simpa using hv⟩
    simp [putV,h.1,ht]
   ·obtain⟨u,hu,hr⟩:=h.2 t ht
    refine⟨u,?_,by simpa [e] using hr⟩
    simp only[putV]
    rw[Array.getElem?_setIfInBounds_ne (fun x=>e x.symm)]; exact hu
  ·simp at hp
theorem ARel.put {pre pre':List (Nat × Oper)}{l l':List Nat}{tm tm':Tr AV}{n:Nat}{tv:Array Value}{dst:Option Tmp}{v:AV}{v':Value}(h:ARel E pre l tm n tv)
  (hp:putDst n tm dst v=some tm') (hv:VRel E v v')
  (hsub:∀ t,dst≠some t→(∀ p ∈ pre',p.1 ∈ l'→p.2.dst≠some t)→∀ p ∈ pre,p.1 ∈ l→p.2.dst≠some t) :
  ARel E pre' l' tm' n (putV tv dst v'):=by
 cases dst with
 | none=>simp [putDst] at hp; subst hp; exact⟨h.1,fun t ht hq=>h.2 t ht (hsub t (by simp) hq)⟩
 | some d =>
  simp only[putDst] at hp
  split at hp
  ·rename_i hd
   simp at hp; subst hp
   refine⟨by simp [putV,h.1],fun t ht hq=>?_⟩
   rw[Tr.get_set]
   by_cases e:t=d
   ·subst e
    refine⟨v',?_,by simpa using hv⟩
    simp [putV,h.1,ht]
   ·obtain⟨u,hu,hr⟩:=h.2 t ht (hsub t (by simpa using fun x=>e x.symm) hq)
    refine⟨u,?_,by simpa [e] using hr⟩
    simp only[putV]
    rw[Array.getElem?_setIfInBounds_ne (fun x=>e x.symm)]; exact hu
  ·simp at hp
theorem ARel.flush {pre:List (Nat × Oper)}{j:Nat}{o:Oper}{l:List Nat}{tm:Tr AV}{n:Nat}{tv:Array Value}{v':Value}(h:ARel E pre (j::l) tm n tv)
  (huniq:∀ p ∈ pre,p.1=j→p.2=o) (hv:∀ d,o.dst=some d→VRel E ((tm.get d).getD undefA) v') :
  ARel E pre l tm n (putV tv o.dst v'):=by
 have key:∀ t,o.dst≠some t→(∀ p ∈ pre,p.1 ∈ l→p.2.dst≠some t)→∀ p ∈ pre,p.1 ∈ j::l→p.2.dst≠some t:=by
  intro t h1 h2 p hp hm
  rcases List.mem_cons.1 hm with e | hm
  ·rw[huniq p hp e]; exact h1
  ·exact h2 p hp hm
 cases hd:o.dst with
 | none=>exact⟨h.1,fun t ht hq=>h.2 t ht (key t (by simp [hd]) hq)⟩
 | some d =>
  refine⟨by simp [putV,h.1],fun t ht hq=>?_⟩
  by_cases e:t=d
  ·subst e
   refine⟨v',?_,hv t hd⟩
   simp [putV,h.1,ht]
  ·obtain⟨u,hu,hr⟩:=h.2 t ht (key t (by rw[hd]; simpa using fun x=>e x.symm) hq)
   refine⟨u,?_,hr⟩
   simp only[putV]
   rw[Array.getElem?_setIfInBounds_ne (fun x=>e x.symm)]; exact hu
theorem finish_region {f:Frame}{ops:Array Oper}{i:Nat}{l:List Nat}{k:List Item}{o:Oper}{v:Value}(ht:f.todo=.inRegion ops (i::l)::k) (ho:ops[i]?=some o) :
  f.finish v={ f with tmps:=putV f.tmps o.dst v,todo:=.inRegion ops l::k }:=by
 simp only[Frame.finish,ht,ho,Option.bind_some]
 cases o.dst <;> rfl
theorem floats_of_val (hH:HRel E H w) (hG:G.Ok E) {size:Nat}{ops:Array Oper}{tm tm':Tr AV}{o:Oper}{v:AV}(hr:runOp P G H size ops tm o=.val v)
  (hsame:∀ t ∈ readsOf ops o,tm'.get t=tm.get t) (hd:∀ d,o.dst=some d→(tm'.get d).getD undefA=v):Floats P E w size ops tm' o∧readsOk size ops o=true:=by
 have hok:readsOk size ops o=true:=by
  unfold runOp at hr; split at hr
  ·rename_i h; exact h
  ·simp at hr
 refine⟨fun f hs hf=>?_,hok⟩
 have hf':∀ t ∈ readsOf ops o,VRel E ((tm.get t).getD undefA) (f.tmps.getD t undef):=fun t ht=>by rw[← hsame t ht]; exact hf t ht
 obtain⟨_,h | h⟩:=runOp_ok (P:=P) hH hG hf' hs hr (by simp) (by simp)
 ·obtain⟨h1,h2,v',hv,hrun⟩:=h
  exact .inl ⟨h1,(fun c hc=>by obtain⟨d,hd⟩:=h2 c hc; cases hd),v',fun d hdd=>by rw[hd d hdd]; exact hv,hrun⟩
 ·obtain⟨h1,h2⟩:=h
  simp at h2; subst h2
  exact .inr ⟨h1,fun d hdd=>by rw[hd d hdd]; exact VRel.undef⟩
theorem reads_ok {ops:Array Oper}{undone pre:List (Nat × Oper)}{done l:List Nat}{tm:Tr AV}{n:Nat}{tv:Array Value}{i:Nat}{o:Oper}(ha:AnyRel ops undone pre done (i::l))
  (hr:ARel E pre (i::l) tm n tv) (hok:readsOk n ops o=true) (hset:∀ p ∈ pre,p.1≠i→∀ d,p.2.dst=some d→d ∈ readsOf ops o→Pred ops i p.1)
  (hown:∀ p ∈ pre,p.1=i→∀ d,p.2.dst=some d→d ∉ readsOf ops o) :
  ∀ t ∈ readsOf ops o,VRel E ((tm.get t).getD undefA) (tv.getD t undef):=by
 intro t ht
 have hlt:t<n:=by
  simp only[readsOk,Bool.and_eq_true] at hok
  exact of_decide_eq_true (List.all_eq_true.1 hok.2 t ht)
 obtain⟨v,hv,hvr⟩:=hr.2 t hlt (fun p hp hm hd=>by
  by_cases e:p.1=i
  ·exact hown p hp e t hd ht
  ·have hpred:=hset p hp e t hd ht
   have hin:=ha.sched.pred hpred done l rfl
   have hnd:=ha.sched.nodup
   exact(List.nodup_append.1 hnd).2.2 p.1 hin p.1 hm rfl)
 have:tv.getD t undef=v:=by simp [Array.getD_eq_getD_getElem?,hv]
 rw[this]; exact hvr
theorem flush {ops:Array Oper}{undone pre:List (Nat × Oper)}{tm:Tr AV}{n:Nat}{cs:List Frame}(hF:∀ p ∈ pre,Floats P E w n ops tm p.2∧readsOk n ops p.2=true) :
  ∀ (l done:List Nat) (f:Frame) (k:List Item),AnyRel ops undone pre done l→ARel E pre l tm n f.tmps→f.mode=.run→f.todo=.inRegion ops l::k →
   ∃ done' l' tv,Steps P (lone f cs w) (lone { f with tmps:=tv,todo:=.inRegion ops l'::k } cs w)∧AnyRel ops undone pre done' l'∧ARel E pre l' tm n tv ∧
    (∀ j l'',l'=j::l''→∀ p ∈ pre,p.1≠j)
 | [],done,f,k,ha,hr,hm,ht=>⟨done,[],f.tmps,by rw[← ht]; exact Steps.refl P _,ha,hr,by simp⟩
 | j::l,done,f,k,ha,hr,hm,ht=>by
  by_cases hj:∃ p ∈ pre,p.1=j
  ·obtain⟨p,hp,rfl⟩:=hj
   have hoj:=ha.hpre p hp
   have huniq:∀ q ∈ pre,q.1=p.1→q.2=p.2:=fun q hq e=>by
    have:=ha.hpre q hq; rw[e,hoj] at this; simpa using this.symm
   have hreads:=reads_ok ha hr (hF p hp).2 (fun q hq hne d hd hrd=>ha.seen p hp q hq (fun e=>hne e.symm) d hd hrd)
    (fun q hq e d hd=>by rw[huniq q hq e] at hd; exact ha.own p hp d hd)
   have ha':AnyRel ops undone pre (done++[p.1]) l:=by
    refine⟨by have:=ha.sched; rwa [List.append_assoc,List.singleton_append],fun q hq=>?_,ha.hpre,fun q hq=>ha.cover q (by simp [hq]),ha.apart,ha.own,ha.seen,ha.dsts⟩
    obtain⟨h1,h2⟩:=ha.hundone q hq
    refine⟨?_,h2⟩
    rcases List.mem_cons.1 h1 with e | h1
    ·exact absurd e (ha.apart q hq p hp)
    ·exact h1
   have go:∀ v',(∀ d,p.2.dst=some d→VRel E ((tm.get d).getD undefA) v')→step P (lone f cs w)=.next (lone (f.finish v') cs w) →
     ∃ done' l' tv,Steps P (lone f cs w) (lone { f with tmps:=tv,todo:=.inRegion ops l'::k } cs w)∧AnyRel ops undone pre done' l'∧ARel E pre l' tm n tv ∧
      (∀ j l'',l'=j::l''→∀ p ∈ pre,p.1≠j):=by
    intro v' hv' hst
    rw[finish_region ht hoj] at hst
    obtain⟨done',l',tv,hs,h1,h2,h3⟩:=flush hF l (done++[p.1]) { f with tmps:=putV f.tmps p.2.dst v',todo:=.inRegion ops l::k } k ha'
     (hr.flush huniq hv') hm rfl
    exact⟨done',l',tv,Steps.head hst hs,h1,h2,h3⟩
   rcases (hF p hp).1 f hr.1 hreads with ⟨hw,hd,v',hv',hrun⟩ | ⟨hw,hv'⟩
   ·exact go v' hv' (stF_value hm ht hoj hw hd hrun)
   ·exact go undef hv' (stF_unwanted hm ht hoj hw)
  ·refine⟨done,j::l,f.tmps,by rw[← ht]; exact Steps.refl P _,ha,hr,fun j' l'' e p hp hpe=>?_⟩
   simp at e
   exact hj ⟨p,hp,by rw[hpe,e.1]⟩
end Go.Ev
