/- Ev, part T: one step of the evaluator is some steps of the machine. -/
import Derived.Test.YtmmehhibkpfghaaGreatEvS
import Derived.Below
set_option linter.unusedVariables false
namespace Go.Ev
structure Keep (A:Nat→Prop) (w0 w:World):Prop where
 os:w.os=w0.os
 tape:w.tape=w0.tape
 output:w.output=w0.output
 size:w0.heap.size≤w.heap.size
 block:∀ b,b<w0.heap.size→¬ A b→w.heap[b]?=w0.heap[b]?
def botFn (c:Cfg):FuncId:=((c.callers.getLast?).getD c.fr).fn
structure Start where
 A:Nat→Prop
 cs:List Frame
 fn:FuncId
 w:World
structure MRel (P:Program) (S:Start) (E:Env) (c:Cfg) (f:Frame) (fs:List Frame) (w:World):Prop where
 top:FRel E false c.fr f
 floats:TopOK P E w c.fr
 callers:CRelL E c.fr.deferred c.callers fs
 heap:HRel E c.heap w
 keep:Keep S.A S.w w
 live:∀ a,Live E c.heap a→S.A a∨S.w.heap.size≤a
 bot:botFn c=S.fn
def OutSpec (P:Program) (S:Start) (E:Env) (m:Machine):Out→Prop
 | .next c'=>∃ E' f fs w,E.le E'∧Steps P m (lone f (fs++S.cs) w)∧MRel P S E' c' f fs w
 | .ways l=>∃ c' ∈ l,∃ E' f fs w,E.le E'∧Steps P m (lone f (fs++S.cs) w)∧MRel P S E' c' f fs w
 | .fork _=>True
 | .done v H=>∃ E' f w v',E.le E'∧Steps P m (lone f S.cs w)∧f.fn=S.fn∧f.leaving P w (.returned v')∧VRel E' v v'∧HRel E' H w∧Keep S.A S.w w
 | .fail _=>True
variable {P:Program} {S:Start} {E:Env} {G:Ctx} {w:World}
theorem OutSpec.of_steps {m m1:Machine}{o:Out}(h:Steps P m m1) (k:OutSpec P S E m1 o):OutSpec P S E m o:=by
 cases o with
 | next c=>obtain⟨E',f,fs,w,h1,h2,h3⟩:=k; exact⟨E',f,fs,w,h1,h.trans h2,h3⟩
 | ways l=>obtain⟨c,hc,E',f,fs,w,h1,h2,h3⟩:=k; exact⟨c,hc,E',f,fs,w,h1,h.trans h2,h3⟩
 | done v H=>obtain⟨E',f,w,v',h0,h1,h2⟩:=k; exact⟨E',f,w,v',h0,h.trans h1,h2⟩
 | fork=>trivial
 | fail=>trivial
theorem OutSpec.lift {E':Env}{m m1:Machine}{o:Out}(hE:E.le E') (h:Steps P m m1) (k:OutSpec P S E' m1 o):OutSpec P S E m o:=by
 cases o with
 | next c=>obtain⟨E2,f,fs,w,h1,h2,h3⟩:=k; exact⟨E2,f,fs,w,hE.trans h1,h.trans h2,h3⟩
 | ways l=>obtain⟨c,hc,E2,f,fs,w,h1,h2,h3⟩:=k; exact⟨c,hc,E2,f,fs,w,hE.trans h1,h.trans h2,h3⟩
 | done v H=>obtain⟨E2,f,w,v',h0,h1,h2⟩:=k; exact⟨E2,f,w,v',hE.trans h0,h.trans h1,h2⟩
 | fork=>trivial
 | fail=>trivial
theorem Keep.kept {A:Nat→Prop}{w0 w w':World}{H:AHeap}(h:Keep A w0 w) (k:Kept E H w w') (hl:∀ a,Live E H a→A a∨w0.heap.size≤a):Keep A w0 w' :=
 ⟨k.os.trans h.os,k.tape.trans h.tape,k.output.trans h.output,Nat.le_trans h.size k.size,fun b hb hn=>by
  rw[k.block b (Nat.lt_of_lt_of_le hb h.size) (fun hlv=>by rcases hl b hlv with x | x; exact hn x; omega)]
  exact h.block b hb hn⟩
theorem live_eff {A:Nat→Prop}{w0 w w':World}{E':Env}{H H':AHeap}(h:Keep A w0 w) (k:EffOK E H w E' H' w') (hl:∀ a,Live E H a→A a∨w0.heap.size≤a) :
  ∀ a,Live E' H' a→A a∨w0.heap.size≤a:=fun a ha=>by
 rcases k.live a ha with x | x
 ·exact hl a x
 ·have:=h.size; exact .inr (by omega)
theorem getLast_cons (a:AFrame):∀ (l:List AFrame) (b:AFrame),((a::l).getLast?).getD b=(l.getLast?).getD a
 | [],b=>by simp
 | x::l,b=>by
  rw[List.getLast?_cons_cons]
  cases h:(x::l).getLast? with
  | none=>simp at h
  | some y=>rfl
theorem botFn_push {c:Cfg}{g:AFrame}{H:AHeap}(fr:AFrame) (hfn:fr.fn=c.fr.fn):botFn { fr:=g,callers:=fr::c.callers,heap:=H }=botFn c:=by
 unfold botFn
 simp only
 rw[getLast_cons]
 cases c.callers with
 | nil=>simpa using hfn
 | cons x l =>
  cases h:(x::l).getLast? with
  | none=>simp at h
  | some y=>rfl
theorem botFn_top {c:Cfg}{g:AFrame}{H:AHeap}(hfn:g.fn=c.fr.fn):botFn { fr:=g,callers:=c.callers,heap:=H }=botFn c:=by
 unfold botFn
 simp only
 cases c.callers with
 | nil=>simpa using hfn
 | cons x l =>
  cases h:(x::l).getLast? with
  | none=>simp at h
  | some y=>rfl
theorem applyOut_ok (hG:G.Ok E) {c:Cfg}{af:AFrame}{f:Frame}{fs:List Frame}{r:AOut}{ops:Array Oper}{i:Nat}{l:List Nat}{k:List Item}{o:Oper}
  (hf:FRel E true af f) (hret:af.returning=false) (hfn:af.fn=c.fr.fn) (hdf:af.deferred=c.fr.deferred) (ht:f.todo=.inRegion ops (i::l)::k) (ho:ops[i]?=some o)
  (hr:(Region.wanted o (yielded ops f.tmps)=true∧(∀ c,o.op=.defer c→∃ d,r=.defer d)∧OutOK P E c.heap w r (execOp f.eval o))∨(Region.wanted o (yielded ops f.tmps)=false∧r=.val undefA))
  (hcs:CRelL E c.fr.deferred c.callers fs) (hH:HRel E c.heap w) (hK:Keep S.A S.w w) (hL:∀ a,Live E c.heap a→S.A a∨S.w.heap.size≤a) (hB:botFn c=S.fn) :
  OutSpec P S E (lone f (fs++S.cs) w) (applyOut P G c af r):=by
 have hm:=(hf.returning_false hret).1
 have fin:∀ {v:AV} {v':Value},VRel E v v'→step P (lone f (fs++S.cs) w)=.next (lone (f.finish v') (fs++S.cs) w) →
   OutSpec P S E (lone f (fs ++ S.cs) w) (match finishA P G c.heap af v with | some fr' => .next { c with fr := fr' } | none => .fail "finish") := by
  intro v v' hv hst
  split
  ·rename_i fr' hfin
   obtain⟨h1,h2,h3,h4⟩:=finishA_ok (P:=P) hH hG hf hret hv hfin
   exact⟨E,_,fs,w,Env.le.refl E,Steps.one hst,⟨h1,h2,by rw[h4,hdf]; exact hcs,hH,hK,hL,by rw[botFn_top (h3.trans hfn)]; exact hB⟩⟩
  ·trivial
 unfold applyOut
 rcases hr with ⟨hw,hd0,hr⟩ | ⟨hw,rfl⟩
 ·have hd:(∀ d,r≠.defer d)→∀ c,o.op≠.defer c:=fun hn c hc=>by obtain⟨d,hd⟩:=hd0 c hc; exact hn d hd
  cases r with
  | defer d =>
   obtain⟨d',hdr,hrun⟩:=hr
   simp only
   split
   ·rename_i hro
    have hro0:f.roundOf=none:=by
     have:=hf.round
     simp only[Option.isNone_iff_eq_none] at hro
     rw[hro] at this; exact this
    have hf':FRel E true { af with defers:=d::af.defers } { f with defers:=d'::f.defers }:=by
     refine⟨hf.fn,hf.kind,hf.round,⟨d',_,hdr,hf.defers,rfl⟩,hf.mode,?_⟩
     have:=hf.body
     split at this
     ·rename_i hx; simp only[hret] at hx; simp at hx
     ·rw[if_neg (by simp [hret])]; obtain⟨k0,hk0,hreg⟩:=this; exact⟨k0,hk0,by unfold RegRel at *; exact hreg⟩
    split
    ·rename_i fr' hfin
     obtain⟨h1,h2,h3,h4⟩:=finishA_ok (P:=P) hH hG hf' hret VRel.undef hfin
     exact⟨E,_,fs,w,Env.le.refl E,Steps.one (stF_defer hm ht ho hw hro0 hrun),⟨h1,h2,by rw[h4]; simp only; rw[hdf]; exact hcs,hH,hK,hL,by rw[botFn_top (h3.trans hfn)]; exact hB⟩⟩
    ·trivial
   ·trivial
  | val v =>
   obtain⟨v',hv,hrun⟩:=hr
   exact fin hv (stF_value hm ht ho hw (hd (by simp)) hrun)
  | eff v H =>
   obtain⟨E',w',he,hr⟩:=hr
   have eff:∀ {v':Value},VRel E' v v'→step P (lone f (fs++S.cs) w)=.next (lone (f.finish v') (fs++S.cs) w') →
     OutSpec P S E (lone f (fs ++ S.cs) w) (match finishA P G H af v with | some fr' => .next { c with fr := fr', heap := H } | none => .fail "finish") := by
    intro v' hv hst
    split
    ·rename_i fr' hfin
     obtain⟨h1,h2,h3,h4⟩:=finishA_ok (P:=P) he.rel (hG.le he.le) (hf.le he.le) hret hv hfin
     exact⟨E',_,fs,w',he.le,Steps.one hst,⟨h1,h2,by rw[h4,hdf]; exact hcs.le he.le,he.rel,hK.kept he.kept hL,live_eff hK he hL,by rw[botFn_top (h3.trans hfn)]; exact hB⟩⟩
    ·trivial
   rcases hr with ⟨v',hv,hrun⟩ | ⟨hv,hrun⟩ | ⟨v',hv,hcomm⟩
   ·exact eff hv (stF_value hm ht ho hw (hd (by simp)) hrun)
   ·exact eff hv (stF_skipv hm ht ho hw (hd (by simp)) hrun)
   ·exact eff hv (stF_comm hm ht ho hw (hd (by simp)) hcomm)
  | enter g args =>
   obtain⟨vs,hv,hrun⟩:=hr
   simp only
   split
   ·rename_i ag hag
    obtain⟨h1,h2,h3,h4,h5⟩:=enter_ok (w:=w) hv hag
    refine⟨E,_,f::fs,w,Env.le.refl E,Steps.one (stF_enter hm ht ho hw (hd (by simp)) hrun),⟨h1,h2,⟨f,fs,hf,hret.trans h5.symm,by rw[hdf]; exact hcs,rfl⟩,hH,hK,hL,?_⟩⟩
    rw[botFn_push af hfn]; exact hB
   ·trivial
  | round l' args =>
   obtain⟨b,vs,hb,hv,hrun⟩:=hr
   simp only
   split
   ·rename_i st p fn tmps size params assign body ds hloop
    split
    ·rename_i tm htm
     obtain⟨a,ob,ha,hob,hbr⟩:=hH.blk l' _ hloop
     have e:a=b:=by rw[hb] at ha; simpa using ha.symm
     subst e
     obtain⟨tv,d,htr,_,rfl⟩:=hbr
     obtain⟨h1,h2⟩:=setParams_ok htr hv htm
     have hsz:¬ vs.toArray.size≠params.size:=by simpa using h2.symm
     have hy:(execOp f.eval o).run P w=.ok (.round a fn ((params.zip vs.toArray).foldl (fun tmps (t,a)=>tmps.setIfInBounds t a) tv) assign body) w:=by
      rw[hrun]
      simp only[Instr.yield,Instr.getLoop,Sem.run_bind]
      have hg:(getObj a).run P w=.ok (.loop { state:=st,pending:=p,fn,tmps:=tv,params,assign,body,defers:=d }) w:=by
       simp [getObj,Sem.run,hob]
      simp only[hg,Result.andThen_ok,Sem.run_pure]
      rw[if_neg hsz]; rfl
     have hfold:(params.zip vs.toArray).foldl (fun tmps (t,a)=>tmps.setIfInBounds t a) tv=(params.toList.zip vs).foldl (fun tmps (t,a)=>tmps.setIfInBounds t a) tv:=by
      rw[← Array.foldl_toList]; simp
     refine⟨E,_,f::fs,w,Env.le.refl E,Steps.one (stF_round hm ht ho hw (hd (by simp)) hy),⟨⟨rfl,by simp [Frame.round],⟨a,hb,rfl⟩,by simp [Frame.round,DRelL],by simp [Frame.round],?_⟩,trivial,⟨f,fs,hf,hret,by rw[hdf]; exact hcs,rfl⟩,hH,hK,hL,?_⟩⟩
     ·simp only[Bool.false_eq_true,if_false]
      refine⟨[.code assign,.beginRound,.code body],by simp only[IRelL,IRel]; exact⟨_,_,rfl,⟨_,_,rfl,⟨_,_,rfl,rfl,rfl⟩,rfl⟩,rfl⟩,RegRel.none_mk rfl rfl ?_⟩
      simp only[Frame.round]
      rw[hfold]; exact h1
     ·rw[botFn_push af hfn]; exact hB
    ·trivial
   ·trivial
  | fork b=>trivial
  | fail s=>trivial
 ·exact fin VRel.undef (stF_unwanted hm ht ho hw)
end Go.Ev
