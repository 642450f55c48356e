/- Ev, part W: regions that draw their order. -/
import Derived.Test.YtmmehhibkpfghaaGreatEvV
set_option linter.unusedVariables false
namespace Go.Ev
variable {P:Program} {S:Start} {E:Env} {G:Ctx} {w:World}
theorem readsOk_of_run {H:AHeap}{size:Nat}{ops:Array Oper}{tm:Tr AV}{o:Oper}{v:AV}(hr:runOp P G H size ops tm o=.val v):readsOk size ops o=true:=by
 unfold runOp at hr; split at hr
 ·rename_i h; exact h
 ·simp at hr
theorem MRel.botTop {c:Cfg}{f:Frame}{fs:List Frame}(h:MRel P S E c f fs w) {g:AFrame}{H:AHeap}(hfn:g.fn=c.fr.fn):botFn { fr:=g,callers:=c.callers,heap:=H }=S.fn :=
 (botFn_top hfn).trans h.bot
theorem natBeq_ne {a b:Nat}:(!Nat.beq a b)=true↔a≠b:=by
 rw[Bool.not_eq_true',← Bool.not_eq_true,Nat.beq_eq]
theorem settled_pred {ops:Array Oper}{pre:List (Nat × Oper)}{i:Nat}{o:Oper}(h:settled ops pre i o=true) :
  ∀ p ∈ pre,∀ d,p.2.dst=some d→d ∈ readsOf ops o→Pred ops i p.1:=by
 intro p hp d hd hr
 have:=List.all_eq_true.1 h p hp
 rw[hd] at this
 simp only[Bool.or_eq_true] at this
 rcases this with h1 | h1
 ·simp [hr] at h1
 ·exact maskOf_ok h1
theorem float_ok (hG:G.Ok E) {c:Cfg}{f:Frame}{fs:List Frame}(h:MRel P S E c f fs w) (hret:c.fr.returning=false) {ops:Array Oper}{undone pre:List (Nat × Oper)}
  (hreg:c.fr.reg=.any ops undone pre) {i:Nat} {o:Oper} (hi:(i,o) ∈ undone) {v:AV} (hr:runOp P G c.heap c.fr.size ops c.fr.tmps o=.val v) (hmf:mayFloat ops pre i o=true)
  {tm:Tr AV} (hp:putDst c.fr.size c.fr.tmps o.dst v=some tm) :
  MRel P S E { c with fr:={ c.fr with tmps:=tm,reg:=.any ops (undone.filter (fun p=>!Nat.beq p.1 i)) ((i,o)::pre) } } f fs w:=by
 obtain⟨hm,k,hk,hrr⟩:=h.top.returning_false hret
 obtain⟨done,l,ha,ht,har,_⟩:=hrr.any_inv hreg
 simp only[mayFloat,Bool.and_eq_true] at hmf
 obtain⟨hset,hmf⟩:=hmf
 have hown:∀ d,o.dst=some d→d ∉ readsOf ops o:=by
  intro d hd; rw[hd] at hmf; simp at hmf; simpa using hmf.1
 have hpre:∀ d,o.dst=some d→∀ p ∈ pre,d ∉ readsOf ops p.2∧p.2.dst≠some d:=by
  intro d hd p hp; rw[hd] at hmf; simp at hmf
  have:=hmf.2 p.1 p.2 hp
  exact this
 obtain⟨hil,hio⟩:=ha.hundone (i,o) hi
 have hget:∀ t,o.dst≠some t→tm.get t=c.fr.tmps.get t:=by
  intro t hne
  cases hd:o.dst with
  | none=>rw[hd] at hp; simp [putDst] at hp; rw[hp]
  | some d =>
   rw[hd] at hp; simp only[putDst] at hp
   split at hp
   ·simp at hp; subst hp
    rw[Tr.get_set,if_neg (fun e=>hne (by rw[hd,e]))]
   ·simp at hp
 have hgetd:∀ d,o.dst=some d→(tm.get d).getD undefA=v:=by
  intro d hd
  rw[hd] at hp; simp only[putDst] at hp
  split at hp
  ·simp at hp; subst hp
   rw[Tr.get_set,if_pos rfl]; rfl
  ·simp at hp
 refine⟨⟨h.top.fn,h.top.kind,h.top.round,h.top.defers,h.top.mode,?_⟩,?_,h.callers,h.heap,h.keep,h.live,h.botTop rfl⟩
 ·rw[hret]
  simp only[Bool.false_eq_true,if_false]
  refine⟨k,hk,RegRel.any_mk rfl done l ⟨ha.sched,?_,?_,?_,?_,?_,?_,?_⟩ ht ⟨har.1,?_⟩ (by simp)⟩
  ·intro p hp'; exact ha.hundone p (List.mem_filter.1 hp').1
  ·intro p hp'
   rcases List.mem_cons.1 hp' with e | hp'
   ·rw[e]; exact hio
   ·exact ha.hpre p hp'
  ·intro j hj
   rcases ha.cover j hj with ⟨oj,hoj⟩ | ⟨oj,hoj⟩
   ·by_cases e:j=i
    ·subst e; exact .inr ⟨o,by simp⟩
    ·refine .inl ⟨oj,List.mem_filter.2 ⟨hoj,?_⟩⟩
     exact natBeq_ne.2 e
   ·exact .inr ⟨oj,by simp [hoj]⟩
  ·intro p hp' q hq
   obtain⟨hp1,hp2⟩:=List.mem_filter.1 hp'
   rcases List.mem_cons.1 hq with e | hq
   ·subst e; exact natBeq_ne.1 hp2
   ·exact ha.apart p hp1 q hq
  ·intro p hp' d hd
   rcases List.mem_cons.1 hp' with e | hp'
   ·subst e; exact hown d hd
   ·exact ha.own p hp' d hd
  ·intro p hp' q hq hne d hd hrd
   rcases List.mem_cons.1 hp' with e | hp'
   ·rcases List.mem_cons.1 hq with e2 | hq
    ·subst e; subst e2; exact absurd rfl hne
    ·subst e; exact settled_pred hset q hq d hd hrd
   ·rcases List.mem_cons.1 hq with e2 | hq
    ·subst e2; exact absurd hrd (hpre d hd p hp').1
    ·exact ha.seen p hp' q hq hne d hd hrd
  ·intro p hp' q hq hne d hd
   rcases List.mem_cons.1 hp' with e | hp'
   ·rcases List.mem_cons.1 hq with e2 | hq
    ·subst e; subst e2; exact absurd rfl hne
    ·subst e; exact(hpre d hd q hq).2
   ·rcases List.mem_cons.1 hq with e2 | hq
    ·subst e2; exact fun h2=>(hpre d h2 p hp').2 hd
    ·exact ha.dsts p hp' q hq hne d hd
  ·intro t htl hq
   have hne:o.dst≠some t:=hq (i,o) (by simp) hil
   obtain⟨u,hu,hur⟩:=har.2 t htl (fun p hp' hpl=>hq p (by simp [hp']) hpl)
   exact⟨u,hu,by simp only[hget t hne]; exact hur⟩
 ·simp only[TopOK]
  have htop:=h.floats
  simp only[TopOK,hreg] at htop
  intro p hp'
  rcases List.mem_cons.1 hp' with e | hp'
  ·subst e
   exact floats_of_val h.heap hG hr (fun t ht'=>hget t (fun e=>hown t e ht')) hgetd
  ·obtain⟨h1,h2⟩:=htop p hp'
   refine⟨fun f' hs hf'=>?_,h2⟩
   have hd:∀ d,p.2.dst=some d→tm.get d=c.fr.tmps.get d:=fun d hd=>hget d (fun e=>(hpre d e p hp').2 hd)
   rcases h1 f' hs (fun t ht'=>by rw[← hget t (fun e=>(hpre t e p hp').1 ht')]; exact hf' t ht') with ⟨h3,h4,v',h5,h6⟩ | ⟨h3,h4⟩
   ·exact .inl ⟨h3,h4,v',fun d hdd=>by rw[hd d hdd]; exact h5 d hdd,h6⟩
   ·exact .inr ⟨h3,fun d hdd=>by rw[hd d hdd]; exact h4 d hdd⟩
theorem any_end {c:Cfg}{f:Frame}{fs:List Frame}(h:MRel P S E c f fs w) (hret:c.fr.returning=false) {ops:Array Oper}{pre:List (Nat × Oper)}
  (hreg:c.fr.reg=.any ops [] pre):OutSpec P S E (lone f (fs++S.cs) w) (.next { c with fr:={ c.fr with reg:=.none } }):=by
 obtain⟨hm,k,hk,hrr⟩:=h.top.returning_false hret
 obtain⟨done,l,ha,ht,har,_⟩:=hrr.any_inv hreg
 have htop:=h.floats
 simp only[TopOK,hreg] at htop
 obtain⟨done',l',tv,hs,ha',har',hhead⟩:=flush (cs:=fs++S.cs) htop l done f k ha har hm ht
 have hl:l'=[]:=by
  cases l' with
  | nil=>rfl
  | cons j l'' =>
   rcases ha'.cover j (by simp) with ⟨o,ho⟩ | ⟨o,ho⟩
   ·simp at ho
   ·exact absurd rfl (hhead j l'' rfl (j,o) ho)
 subst hl
 refine⟨E,{ f with tmps:=tv,todo:=k },fs,w,Env.le.refl E,hs.trans (Steps.one (stF_pop hm rfl)),⟨⟨h.top.fn,h.top.kind,h.top.round,h.top.defers,h.top.mode,?_⟩,trivial,h.callers,h.heap,h.keep,h.live,h.botTop rfl⟩⟩
 rw[hret]
 simp only[Bool.false_eq_true,if_false]
 exact⟨k,hk,RegRel.none_mk rfl rfl ⟨har'.1,fun t htl=>har'.2 t htl (by simp)⟩⟩
theorem any_head (hG:G.Ok E) {c:Cfg}{f:Frame}{fs:List Frame}(h:MRel P S E c f fs w) (hret:c.fr.returning=false) {ops:Array Oper}{undone pre:List (Nat × Oper)}
  (hreg:c.fr.reg=.any ops undone pre) (hne:undone≠[]) {hard:List (Nat × Oper × AOut)}
  (hall:∀ p ∈ undone,enabledA undone p.2=true→∃ r,(p.1,p.2,r) ∈ hard)
  (hrun:∀ q ∈ hard,(q.1,q.2.1) ∈ undone∧runOp P G c.heap c.fr.size ops c.fr.tmps q.2.1=q.2.2∧(∀ s,q.2.2≠.fail s)∧∀ b,q.2.2≠.fork b) :
  ∃ q ∈ hard,settled ops pre q.1 q.2.1=true→OutSpec P S E (lone f (fs++S.cs) w)
   (applyOut P G c { c.fr with reg:=.any ops ((q.1,q.2.1)::undone.filter (fun p=>!Nat.beq p.1 q.1)) pre } q.2.2):=by
 obtain⟨hm,k,hk,hrr⟩:=h.top.returning_false hret
 obtain⟨done,l,ha,ht,har,_⟩:=hrr.any_inv hreg
 have htop:=h.floats
 simp only[TopOK,hreg] at htop
 obtain⟨done',l',tv,hs,ha',har',hhead⟩:=flush (cs:=fs++S.cs) htop l done f k ha har hm ht
 cases l' with
 | nil =>
  cases undone with
  | nil=>exact absurd rfl hne
  | cons p _=>have:=(ha'.hundone p (by simp)).1; simp at this
 | cons e l'' =>
  have hnp:=hhead e l'' rfl
  obtain⟨o,ho⟩:∃ o,(e,o) ∈ undone:=by
   rcases ha'.cover e (by simp) with h1 | ⟨o,ho⟩
   ·exact h1
   ·exact absurd rfl (hnp (e,o) ho)
  obtain⟨_,hoe⟩:=ha'.hundone (e,o) ho
  simp only at hoe
  have hnd:=ha'.sched.nodup
  have hen:enabledA undone o=true:=by
   refine List.all_eq_true.2 (fun p hp=>?_)
   have hin:=ha'.sched.topo done' e l'' o rfl hoe p hp
   simp only[Bool.not_eq_true',memIx,List.any_eq_false]
   intro q hq hqe
   have hqe:q.1=p:=Nat.eq_of_beq_eq_true hqe
   have hql:=(ha'.hundone q hq).1
   rw[hqe] at hql
   exact(List.nodup_append.1 hnd).2.2 p hin p hql rfl
  obtain⟨r,hr⟩:=hall (e,o) ho hen
  refine⟨(e,o,r),hr,fun hset=>?_⟩
  obtain⟨_,hrr,hnf,hnk⟩:=hrun _ hr
  simp only at hrr hnf hnk hset ⊢
  have hsz:tv.size=c.fr.size:=har'.1
  have hrd:readsOk c.fr.size ops o=true:=by
   unfold runOp at hrr; split at hrr
   ·rename_i h; exact h
   ·exact absurd hrr.symm (hnf _)
  have hreads:=reads_ok ha' har' hrd (fun p hp hne' d hd hrd=>settled_pred hset p hp d hd hrd) (fun p hp hpe=>absurd hpe (hnp p hp))
  have hrun':=(runOp_ok (P:=P) (f:={ f with tmps:=tv,todo:=.inRegion ops (e::l'')::k }) h.heap hG hreads hsz hrr hnf hnk).2
  refine OutSpec.of_steps hs (applyOut_ok (i:=e) (l:=l'') (k:=k) (o:=o) (ops:=ops) hG ⟨h.top.fn,h.top.kind,h.top.round,h.top.defers,h.top.mode,?_⟩ hret rfl rfl rfl hoe hrun' h.callers h.heap h.keep h.live h.bot)
  simp only[hret,Bool.false_eq_true,if_false]
  refine⟨k,hk,RegRel.any_mk rfl done' (e::l'') ⟨ha'.sched,?_,ha'.hpre,?_,?_,ha'.own,ha'.seen,ha'.dsts⟩ rfl har' (fun _=>⟨e,o,_,l'',rfl,rfl,?_⟩)⟩
  ·intro p hp
   rcases List.mem_cons.1 hp with e1 | hp
   ·subst e1; exact⟨by simp,hoe⟩
   ·exact ha'.hundone p (List.mem_filter.1 hp).1
  ·intro j hj
   rcases ha'.cover j hj with ⟨oj,hoj⟩ | h2
   ·by_cases ej:j=e
    ·subst ej; exact .inl ⟨o,by simp⟩
    ·exact .inl ⟨oj,List.mem_cons_of_mem _ (List.mem_filter.2 ⟨hoj,natBeq_ne.2 ej⟩)⟩
   ·exact .inr h2
  ·intro p hp q hq
   rcases List.mem_cons.1 hp with e1 | hp
   ·subst e1; exact fun e2=>hnp q hq e2.symm
   ·exact ha'.apart p (List.mem_filter.1 hp).1 q hq
  ·intro p hp
   have:=(List.mem_filter.1 hp).2
   exact natBeq_ne.1 this
theorem anyWays_ok {c:Cfg}{fr:AFrame}{ops:Array Oper}{undone pre:List (Nat × Oper)}{m:Machine}:∀ (l:List (Nat × Oper × AOut)) (acc:List Cfg),
  ((∃ c' ∈ acc,OutSpec P S E m (.next c'))∨∃ q ∈ l,settled ops pre q.1 q.2.1=true→OutSpec P S E m (applyOut P G c { fr with reg:=.any ops ((q.1,q.2.1)::undone.filter (fun p=>!Nat.beq p.1 q.1)) pre } q.2.2)) →
  OutSpec P S E m (anyWays P G c fr ops undone pre l acc)
 | [],acc,h=>by
  rcases h with ⟨c',hc,h⟩ | ⟨q,hq,_⟩
  ·exact⟨c',hc,h⟩
  ·simp at hq
 | (i,o,r)::l,acc,h=>by
  simp only[anyWays]
  split
  ·rename_i hset
   split
   ·rename_i c' hc'
    refine anyWays_ok l (c'::acc) ?_
    rcases h with ⟨c2,hc,h⟩ | ⟨q,hq,h⟩
    ·exact .inl ⟨c2,by simp [hc],h⟩
    ·rcases List.mem_cons.1 hq with e | hq
     ·subst e
      have:=h hset
      simp only[hc'] at this
      exact .inl ⟨c',by simp,this⟩
     ·exact .inr ⟨q,hq,h⟩
   ·trivial
   ·trivial
  ·trivial
theorem anyGo_ok (hG:G.Ok E) {c:Cfg}{f:Frame}{fs:List Frame}(h:MRel P S E c f fs w) (hret:c.fr.returning=false) {ops:Array Oper}{undone pre:List (Nat × Oper)}
  (hreg:c.fr.reg=.any ops undone pre) (hne:undone≠[]):∀ (rs:List (Nat × Oper)) (hard:List (Nat × Oper × AOut)),
  (∀ p ∈ rs,p ∈ undone)→(∀ p ∈ undone,enabledA undone p.2=true→p ∈ rs∨∃ r,(p.1,p.2,r) ∈ hard) →
  (∀ q ∈ hard,(q.1,q.2.1) ∈ undone∧runOp P G c.heap c.fr.size ops c.fr.tmps q.2.1=q.2.2∧(∀ s,q.2.2≠.fail s)∧∀ b,q.2.2≠.fork b) →
  OutSpec P S E (lone f (fs++S.cs) w) (anyGo P G c c.fr ops undone pre rs hard)
 | [],hard,hrs,hall,hrun=>by
  have hh:=any_head hG h hret hreg hne (fun p hp he=>(hall p hp he).resolve_left (by simp)) hrun
  unfold anyGo
  split
  ·trivial
  ·rename_i i o r
   obtain⟨q,hq,hq2⟩:=hh
   simp at hq; subst hq
   split
   ·rename_i hset; exact hq2 hset
   ·trivial
  ·exact anyWays_ok _ _ (.inr hh)
 | (i,o)::rs,hard,hrs,hall,hrun=>by
  unfold anyGo
  have keep:∀ {r:AOut},runOp P G c.heap c.fr.size ops c.fr.tmps o=r→(∀ s,r≠.fail s)→(∀ b,r≠.fork b) →
    OutSpec P S E (lone f (fs++S.cs) w) (anyGo P G c c.fr ops undone pre rs ((i,o,r)::hard)):=by
   intro r hr h1 h2
   refine anyGo_ok hG h hret hreg hne rs _ (fun p hp=>hrs p (by simp [hp])) (fun p hp he=>?_) (fun q hq=>?_)
   ·rcases hall p hp he with h3 | ⟨r',h3⟩
    ·rcases List.mem_cons.1 h3 with e | h3
     ·subst e; exact .inr ⟨r,by simp⟩
     ·exact .inl h3
    ·exact .inr ⟨r',by simp [h3]⟩
   ·rcases List.mem_cons.1 hq with e | hq
    ·subst e; exact⟨hrs (i,o) (by simp),hr,h1,h2⟩
    ·exact hrun q hq
  split
  ·rename_i v hv
   split
   ·rename_i hmf
    split
    ·rename_i tm htm
     exact⟨E,f,fs,w,Env.le.refl E,Steps.refl P _,float_ok hG h hret hreg (hrs (i,o) (by simp)) hv hmf htm⟩
    ·trivial
   ·exact keep hv (by simp) (by simp)
  ·trivial
  ·trivial
  ·rename_i r hnv hnk hnf
   exact keep rfl (fun s e=>hnf s e) (fun b e=>hnk b e)
end Go.Ev
