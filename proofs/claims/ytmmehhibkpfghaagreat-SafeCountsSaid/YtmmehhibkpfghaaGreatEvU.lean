/- Ev, part U: one step, whole. -/
import Derived.Test.YtmmehhibkpfghaaGreatEvT
set_option linter.unusedVariables false
namespace Go.Ev
variable {P:Program} {S:Start} {E:Env} {G:Ctx} {w:World}
theorem MRel.to {c:Cfg}{f:Frame}{fs:List Frame}(h:MRel P S E c f fs w) (hret:c.fr.returning=false) {ai:List AItem}{k:List Item}(hk:IRelL E ai k)
  (hn:c.fr.reg=.none):MRel P S E { c with fr:={ c.fr with todo:=ai } } { f with todo:=k } fs w:=by
 obtain⟨hm,k0,_,hreg⟩:=h.top.returning_false hret
 obtain⟨_,htr⟩:=hreg.none_inv hn
 refine⟨⟨h.top.fn,h.top.kind,h.top.round,h.top.defers,h.top.mode,?_⟩,?_,h.callers,h.heap,h.keep,h.live,(botFn_top (c:=c) (g:={ c.fr with todo:=ai }) (H:=c.heap) rfl).trans h.bot⟩
 ·rw[hret]
  simp only[Bool.false_eq_true,if_false]
  exact⟨k,hk,RegRel.none_mk hn rfl htr⟩
 ·simp only[TopOK,hn]
theorem exitA_ok {id:Nat}:∀ {ai:List AItem}{k:List Item},IRelL E ai k→match exitA id ai with
  | some ai'=>∃ k',exitTo id k=some k'∧IRelL E ai' k'
  | none=>exitTo id k=none
 | [],k,h=>by simp only[IRelL] at h; subst h; simp [exitA,exitTo]
 | a::ai,k,h=>by
  obtain⟨i,r,hi,hr,rfl⟩:=h
  have ih:=exitA_ok (id:=id) hr
  cases a with
  | inBlock id' =>
   simp only[IRel] at hi; subst hi
   simp only[exitA,exitTo]
   by_cases e:id'=id
   ·subst e; simp [hr]
   ·simp [e]; exact ih
  | code c=>simp only[IRel] at hi; subst hi; simpa [exitA,exitTo] using ih
  | inLoop c=>simp only[IRel] at hi; subst hi; simpa [exitA,exitTo] using ih
  | inScope c=>simp only[IRel] at hi; subst hi; simpa [exitA,exitTo] using ih
  | inRangeFunc l=>obtain⟨b,_,rfl⟩:=hi; simpa [exitA,exitTo] using ih
  | endRangeFunc l=>obtain⟨b,_,rfl⟩:=hi; simpa [exitA,exitTo] using ih
  | beginRound=>simp only[IRel] at hi; subst hi; simpa [exitA,exitTo] using ih
def oneV (tmps:Array Value):ResultVar→Sem Value
 | .tmp t=>pure (tmps.getD t undef)
 | .cell a t=>do loadVar t (← asAddr (tmps.getD a undef))
theorem one_result {H:AHeap}(hH:HRel E H w) {tm:Tr AV}{size:Nat}{tmps:Array Value}(ht:TRel E tm size tmps) {r:ResultVar}{v:AV}(h:oneA P H size tm r=some v) :
  ∃ v',VRel E v v'∧(oneV tmps r).run P w=.ok v' w:=by
 cases r with
 | tmp t =>
  simp only[oneA] at h
  split at h
  ·rename_i hlt
   simp at h; subst h
   obtain⟨u,hu,hr⟩:=ht.2 t hlt
   exact⟨u,hr,by simp [oneV,Array.getD_eq_getD_getElem?,hu]⟩
  ·simp at h
 | cell a t =>
  simp only[oneA] at h
  split at h
  ·rename_i hlt
   obtain⟨u,hu,hr⟩:=ht.2 a hlt
   have hg:tmps.getD a undef=u:=by simp [Array.getD_eq_getD_getElem?,hu]
   split at h
   ·rename_i id off hev
    rw[hev] at hr
    simp only[VRel] at hr
    obtain⟨b,hb,_,rfl⟩:=hr
    obtain⟨v',hv,hrun⟩:=loadAt_ok (P:=P) hH hb h
    refine⟨v',hv,?_⟩
    simp only[oneV,hg]
    simp [asAddr,SI.den,hrun]
   ·simp at h
  ·simp at h
theorem results_list {H:AHeap}(hH:HRel E H w) {tm:Tr AV}{size:Nat}{tmps:Array Value}(ht:TRel E tm size tmps):∀ {rs:List ResultVar}{vs:List AV},allA P H size tm rs=some vs →
  ∃ us,VRelL E vs us∧(rs.mapM (oneV tmps)).run P w=.ok us w
 | [],vs,h=>by simp [allA] at h; subst h; exact⟨[],VRelL.nil,by simp⟩
 | r::rs,vs,h=>by
  simp only[allA] at h
  split at h
  ·rename_i a ha
   split at h
   ·rename_i as has
    simp at h; subst h
    obtain⟨u,hu,hrun⟩:=one_result (P:=P) hH ht ha
    obtain⟨us,hus,hrun2⟩:=results_list hH ht has
    refine⟨u::us,VRelL.cons hu hus,?_⟩
    simp only[List.mapM_cons,Sem.run_bind,hrun,Result.andThen_ok,hrun2,Sem.run_pure]
   ·simp at h
  ·simp at h
theorem result_ok {H:AHeap}(hH:HRel E H w) {af:AFrame}{f:Frame}{v:AV}(hfn:f.fn=af.fn) (ht:TRel E af.tmps af.size f.tmps) (h:resultA P H af=some v) :
  ∃ fn v',P.funcs[f.fn]?=some fn∧(results fn f.tmps).run P w=.ok v' w∧VRel E v v':=by
 unfold resultA at h
 split at h
 ·simp at h
 ·rename_i fn hf
  have hrun:∀ {us:List Value},(fn.results.toList.mapM (oneV f.tmps)).run P w=.ok us w→(results fn f.tmps).run P w=.ok (if h:us.toArray.size=1 then us.toArray[0] else .tuple us.toArray) w:=by
   intro us hus
   have e:results fn f.tmps=(do
     let vs ← fn.results.mapM (oneV f.tmps)
     pure (if h:vs.size=1 then vs[0] else .tuple vs)):=rfl
   rw[e,Array.mapM_eq_mapM_toList]
   simp only[Sem.run_bind,Sem.run_map,hus,Result.andThen_ok,Sem.run_pure]
  split at h
  ·rename_i a ha
   simp at h; subst h
   obtain⟨us,hus,hr⟩:=results_list (P:=P) hH ht ha
   simp only[VRelL] at hus
   obtain⟨u,_,hu,rfl,rfl⟩:=hus
   exact⟨fn,u,by rw[hfn]; exact hf,by rw[hrun hr]; simp,hu⟩
  ·rename_i l hne ha
   simp at h; subst h
   obtain⟨us,hus,hr⟩:=results_list (P:=P) hH ht ha
   have hl:us.toArray.size≠1:=by
    intro h1
    have h2:l.length=1:=by rw[← hus.length]; simpa using h1
    obtain⟨x,rfl⟩:=List.length_eq_one_iff.1 h2
    exact hne _ rfl
   exact⟨fn,.tuple us.toArray,by rw[hfn]; exact hf,by rw[hrun hr,dif_neg hl],by simp only[VRel]; exact⟨us,hus,rfl⟩⟩
  ·simp at h
end Go.Ev
