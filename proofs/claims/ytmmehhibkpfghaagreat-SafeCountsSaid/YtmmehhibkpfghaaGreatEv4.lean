/- Ev, part 4: a run up to cuts; loops by induction. -/
import Derived.Test.YtmmehhibkpfghaaGreatEv3
set_option linter.unusedVariables false
namespace Go.Ev
variable {P:Program} {S:Start} {E:Env} {G:Ctx} {w:World}
theorem strip_ok:∀ (l:List AItem) {fr:AFrame}{c:Cfg}{f:Frame}{fs:List Frame},c.fr.returning=false→c.fr.reg=.none→c.fr.todo=l→MRel P S E c f fs w →
  ∃ f',Steps P (lone f (fs++S.cs) w) (lone f' (fs++S.cs) w)∧MRel P S E { c with fr:={ c.fr with todo:=strip l } } f' fs w
 | [],fr,c,f,fs,hr,hn,hl,h=>⟨f,Steps.refl P _,by rw[show strip []=c.fr.todo from hl.symm]; exact h⟩
 | a::l,fr,c,f,fs,hr,hn,hl,h=>by
  obtain⟨hm,hI,hT⟩:=h.items hr hn
  rw[hl] at hI
  obtain⟨i,r,hi,hrr,ht⟩:=hI.cons_inv
  have pass:(∃ b,a=.inBlock b)∨(∃ b,a=.inScope b)→strip (a::l)=strip l→∃ f',Steps P (lone f (fs++S.cs) w) (lone f' (fs++S.cs) w)∧MRel P S E { c with fr:={ c.fr with todo:=strip (a::l) } } f' fs w:=by
   intro ha hs
   have hst:step P (lone f (fs++S.cs) w)=.next (lone { f with todo:=r } (fs++S.cs) w):=by
    rcases ha with ⟨b,rfl⟩ | ⟨b,rfl⟩
    ·have hi:i=.inBlock b:=hi
     rw[hi] at ht; exact stF_inBlock hm ht
    ·have hi:i=.inScope b:=hi
     rw[hi] at ht; exact stF_inScope hm ht
   have h':=h.to hr hrr hn
   obtain⟨f',k1,k2⟩:=strip_ok l (fr:=fr) (c:={ c with fr:={ c.fr with todo:=l } }) hr hn rfl h'
   exact⟨f',(Steps.one hst).trans k1,by rw[hs]; exact k2⟩
  have stay:strip (a::l)=a::l→∃ f',Steps P (lone f (fs++S.cs) w) (lone f' (fs++S.cs) w)∧MRel P S E { c with fr:={ c.fr with todo:=strip (a::l) } } f' fs w:=fun hs =>
   ⟨f,Steps.refl P _,by rw[hs,← hl]; exact h⟩
  cases a with
  | inBlock b=>exact pass (.inl ⟨b,rfl⟩) rfl
  | inScope b=>exact pass (.inr ⟨b,rfl⟩) rfl
  | _=>exact stay rfl
theorem atLoop_ok {fr:AFrame}{blk:Nat}(h:atLoop fr=some blk):fr.returning=false∧fr.reg=.none:=by
 unfold atLoop at h
 split at h
 ·rename_i h1 h2; exact⟨h1,h2⟩
 ·simp at h
theorem cutOf_ok {c:Cfg}{blk:Nat}:∀ {us:List Cut}{k j:Nat}{σ:Sub},cutOf G c blk us k=some (j,σ)→∃ i u,j=k+i∧us[i]?=some u∧isInst G σ u.t c=true∧σ.next=u.t.next
 | [],k,j,σ,h=>by simp [cutOf] at h
 | u::r,k,j,σ,h=>by
  simp only[cutOf] at h
  have rest:cutOf G c blk r (k+1)=some (j,σ)→∃ i u',j=k+i∧(u::r)[i]?=some u'∧isInst G σ u'.t c=true∧σ.next=u'.t.next:=by
   intro h
   obtain⟨i,u',h1,h2,h3⟩:=cutOf_ok h
   exact⟨i+1,u',by omega,by simpa using h2,h3⟩
  cases hb:(Nat.beq u.fn c.fr.fn&&Nat.beq u.blk blk&&Nat.beq u.depth c.callers.length&&keyOK G c.fr.tmps u.key&&natsOK u.top (topSig c.fr.todo)&&sigOK u.sig c.callers&&pkOK G c u.pk) with
  | false=>rw[hb] at h; exact rest h
  | true =>
   rw[hb] at h
   simp only[cond_true] at h
   cases hi:(isInst G (solve G u c) u.t c&&!wrongFact G (solve G u c) u.fs) with
   | false=>rw[hi] at h; exact rest h
   | true =>
    rw[hi] at h
    simp only[cond_true,Option.some.injEq,Prod.mk.injEq] at h
    obtain⟨rfl,rfl⟩:=h
    exact⟨0,u,rfl,rfl,(Bool.and_eq_true _ _ ▸ hi).1,rfl⟩
def End.sub (e:End) (n:Nat):Sub:=match e.leaf with
 | .cut _ i b r=>{ ints:=i,bools:=b,rows:=r,ids:=e.ids,next:=n }
 | _=>{ ints:=[],bools:=[],rows:=[],ids:=.nil,next:=0 }
def Facts (E:Env) (l:List (SB × Bool)):Prop:=∀ p ∈ l,SB.den E p.1=p.2
def Good (P:Program) (S:Start) (m:Machine):Prop:=∃ f w,Steps P m (lone f S.cs w)∧f.fn=S.fn∧f.leaving P w (.returned (.bool true))∧Keep S.A S.w w
def EndOK (P:Program) (S:Start) (us:List Cut) (E:Env) (m:Machine) (e:End):Prop :=
 Facts E e.asm∧match e.leaf with
  | .dead _=>True
  | .fin b=>∃ f w,Steps P m (lone f S.cs w)∧f.fn=S.fn∧f.leaving P w (.returned (.bool (b.den E)))∧Keep S.A S.w w
  | .cut j _ _ _=>∃ u,us[j]?=some u∧∃ E' f fs w G',E.le E'∧Steps P m (lone f (fs++S.cs) w)∧MRel P S E' e.cfg f fs w∧G'.Ok E'∧isInst G' (e.sub u.t.next) u.t e.cfg=true
theorem EndOK.lift {us:List Cut}{E':Env}{m m':Machine}{e:End}(hE:E.le E') (hs:Steps P m m') (h:EndOK P S us E' m' e):EndOK P S us E m e:=by
 obtain⟨h1,h2⟩:=h
 refine⟨fun p hp=>by rw[← SB.den_le hE]; exact h1 p hp,?_⟩
 split at h2
 ·trivial
 ·rename_i b
  obtain⟨f,w,k1,k2,k3,k4⟩:=h2
  exact⟨f,w,hs.trans k1,k2,by rw[← SB.den_le hE]; exact k3,k4⟩
 ·obtain⟨u,hu,E2,f,fs,w,G',k1,k2,k3⟩:=h2
  exact⟨u,hu,E2,f,fs,w,G',hE.trans k1,hs.trans k2,k3⟩
theorem ends_ok (hP:P.follows .mixedOrders=true) {us:List Cut}:∀ (n:Nat) {go:Bool}{G:Ctx}{E:Env}{c:Cfg}{f:Frame}{fs:List Frame}{w:World},G.Ok E→MRel P S E c f fs w →
  ∃ e ∈ ends P us n go G c,EndOK P S us E (lone f (fs++S.cs) w) e
 | 0,go,G,E,c,f,fs,w,hG,hM=>⟨_,List.mem_singleton.2 rfl,fun p hp=>hG.2 p hp,trivial⟩
 | n+1,go,G,E,c,f,fs,w,hG,hM=>by
  have e0:ends P us (n+1) go G c=@Option.rec (Nat × Sub) (fun _=>List End)
   (@Out.rec (fun _=>List End) (fun c'=>ends P us n false G c') (fun l=>l.flatMap (ends P us n false G))
    (fun b=>ends P us n true { G with asm:=(b,true)::G.asm } (c.refine { G with asm:=(b,true)::G.asm })++ends P us n true { G with asm:=(b,false)::G.asm } (c.refine { G with asm:=(b,false)::G.asm }))
    (fun v _=>finE G c v) (fun w=>[⟨G.asm,.dead w,.nil,c⟩]) (stepF P G c))
   (fun x=>@Option.rec SB (fun _=>List End) [⟨G.asm,.cut x.1 x.2.ints x.2.bools x.2.rows,x.2.ids,c.at⟩]
    (fun b=>ends P us n false { G with asm:=(b,true)::G.asm } (c.refine { G with asm:=(b,true)::G.asm })++ends P us n false { G with asm:=(b,false)::G.asm } (c.refine { G with asm:=(b,false)::G.asm })) (openOf us G x)) (checkE us go G c):=rfl
  rw[e0]
  cases hc:checkE us go G c with
  | some x =>
   obtain⟨j,σ⟩:=x
   simp only
   cases hop:openOf us G (j,σ) with
   | some b =>
    simp only
    cases hb:b.den E with
    | true =>
     obtain⟨e,he,hok⟩:=ends_ok hP n (go:=false) (us:=us) (hG.cons hb) (hM.refine (hG.cons hb))
     exact⟨e,List.mem_append.2 (.inl he),hok⟩
    | false =>
     obtain⟨e,he,hok⟩:=ends_ok hP n (go:=false) (us:=us) (hG.cons hb) (hM.refine (hG.cons hb))
     exact⟨e,List.mem_append.2 (.inr he),hok⟩
   | none =>
   refine⟨_,List.mem_singleton.2 rfl,fun p hp=>hG.2 p hp,?_⟩
   unfold checkE at hc
   cases go with
   | true=>simp at hc
   | false =>
    simp only at hc
    cases hl:atLoop c.fr with
    | none=>rw[hl] at hc; simp at hc
    | some blk =>
     rw[hl] at hc
     simp only at hc
     obtain⟨i,u,h1,h2,h3,h4⟩:=cutOf_ok hc
     obtain⟨r1,r2⟩:=atLoop_ok hl
     obtain⟨f',k1,k2⟩:=strip_ok c.fr.todo (fr:=c.fr) r1 r2 rfl hM
     have hj:j=i:=by omega
     subst hj
     refine⟨u,h2,E,f',fs,w,G,Env.le.refl E,k1,k2,hG,?_⟩
     have:(End.sub ⟨G.asm,.cut j σ.ints σ.bools σ.rows,σ.ids,c.at⟩ u.t.next)=σ:=by
      simp only[End.sub,← h4]
     rw[this]; exact h3
  | none =>
   simp only
   have hst:=stepF_ok hP hG hM
   cases ho:stepF P G c with
   | next c' =>
    rw[ho] at hst
    obtain⟨E',f',fs',w',h1,h2,h3⟩:=hst
    obtain⟨e,he,hok⟩:=ends_ok hP n (go:=false) (us:=us) (hG.le h1) h3
    exact⟨e,he,hok.lift h1 h2⟩
   | ways l =>
    rw[ho] at hst
    obtain⟨c',hc',E',f',fs',w',h1,h2,h3⟩:=hst
    obtain⟨e,he,hok⟩:=ends_ok hP n (go:=false) (us:=us) (hG.le h1) h3
    exact⟨e,List.mem_flatMap.2 ⟨c',hc',he⟩,hok.lift h1 h2⟩
   | fork b =>
    simp only
    cases hb:b.den E with
    | true =>
     obtain⟨e,he,hok⟩:=ends_ok hP n (go:=true) (us:=us) (hG.cons hb) (hM.refine (hG.cons hb))
     exact⟨e,List.mem_append.2 (.inl he),hok⟩
    | false =>
     obtain⟨e,he,hok⟩:=ends_ok hP n (go:=true) (us:=us) (hG.cons hb) (hM.refine (hG.cons hb))
     exact⟨e,List.mem_append.2 (.inr he),hok⟩
   | done v H =>
    rw[ho] at hst
    obtain⟨E',f',w',v',h0,h1,h2,h3,h4,h5,h6⟩:=hst
    simp only[finE]
    split
    ·rename_i b
     simp only[VRel] at h4
     refine⟨_,List.mem_singleton.2 rfl,fun p hp=>hG.2 p hp,f',w',h1,h2,?_,h6⟩
     rw[h4,SB.den_le h0] at h3
     exact h3
    ·exact⟨_,List.mem_singleton.2 rfl,fun p hp=>hG.2 p hp,trivial⟩
   | fail s=>exact⟨_,List.mem_singleton.2 rfl,fun p hp=>hG.2 p hp,trivial⟩
structure Plan where
 us:List Cut
 G:Nat→Ctx
 Φ:Nat→(Nat→Int)→(Nat→Bool)→(Nat→Int→Int)→Prop
 μ:Nat→(Nat→Int)→(Nat→Bool)→(Nat→Int→Int)→Nat
def Plan.phi (p:Plan) (k:Nat) (E:Env):Prop:=p.Φ k E.int E.bool E.row
def Plan.mu (p:Plan) (k:Nat) (E:Env):Nat:=p.μ k E.int E.bool E.row
def LeafVC (p:Plan) (k:Nat) (E:Env):Leaf→Prop
 | .dead _=>False
 | .fin b=>b.den E=true
 | .cut j i b r=>let E':=inst { ints:=i,bools:=b,rows:=r,ids:=.nil,next:=0 } E
  (p.G j).Ok E'∧p.phi j E'∧p.mu j E'<p.mu k E
def CtlOK (us:List Cut) (e:End):Prop:=match e.leaf with
 | .cut j _ _ _=>match us[j]? with
  | some u=>u.t.cfg.ctl (u.t.loops.map some)=e.cfg.ctl (u.t.loops.map e.ids.get)
  | none=>False
 | _=>True
theorem den_same {E E':Env}(hi:E'.int=E.int) (hb:E'.bool=E.bool) (hr:E'.row=E.row):(∀ a:SI,a.den E'=a.den E∧∀ j,a.cells E' j=a.cells E j)∧∀ b:SB,b.den E'=b.den E:=by
 have h1:∀ a:SI,a.den E'=a.den E∧∀ j,a.cells E' j=a.cells E j:=by
  intro a
  induction a <;> simp_all [SI.den,SI.cells]
 refine⟨h1,fun b=>?_⟩
 induction b <;> simp_all [SB.den]
theorem ok_same {G:Ctx}{E E':Env}(hi:E'.int=E.int) (hb:E'.bool=E.bool) (hr:E'.row=E.row) (h:G.Ok E):G.Ok E' :=
 ⟨fun i r hr'=>by rw[hi]; exact h.1 i r hr',fun p hp=>by rw[(den_same hi hb hr).2]; exact h.2 p hp⟩
theorem part_ok (hP:P.follows .mixedOrders=true) (p:Plan) (hok:∀ u ∈ p.us,u.t.ok=true) {k n:Nat}{go:Bool}{g:Ctx}{c:Cfg}{f:Frame}{fs:List Frame}(hctl:∀ e ∈ ends P p.us n go g c,CtlOK p.us e)
  (hvc:∀ e ∈ ends P p.us n go g c,∀ E:Env,g.Ok E→p.phi k E→Facts E e.asm→LeafVC p k E e.leaf)
  (hG:g.Ok E) (hΦ:p.phi k E) (hM:MRel P S E c f fs w)
  (ih:∀ j u E' f' fs' w',p.us[j]?=some u→p.mu j E'<p.mu k E→(p.G j).Ok E'→p.phi j E'→MRel P S E' u.t.cfg f' fs' w'→Good P S (lone f' (fs'++S.cs) w')):Good P S (lone f (fs++S.cs) w):=by
 obtain⟨e,he,hasm,hend⟩:=ends_ok hP n (us:=p.us) (go:=go) hG hM
 have hv:=hvc e he E hG hΦ hasm
 have hc:=hctl e he
 unfold CtlOK at hc
 obtain⟨asm,leaf,ids,cfg⟩:=e
 cases leaf with
 | dead s=>exact hv.elim
 | fin b =>
  obtain⟨f',w',k1,k2,k3,k4⟩:=hend
  have hv:b.den E=true:=hv
  rw[hv] at k3
  exact⟨f',w',k1,k2,k3,k4⟩
 | cut j i b r =>
  obtain⟨u,hu,E',f',fs',w',G',k1,k2,k3,k4,k5⟩:=hend
  simp only[hu] at hc
  have hum:u ∈ p.us:=List.mem_of_getElem? hu
  have hI:=isInst_ok (P:=P) (S:=S) k4 (hok u hum) rfl k5 hc k3
  obtain⟨v1,v2,v3⟩:=hv
  have e1:(inst (End.sub ⟨asm,.cut j i b r,ids,cfg⟩ u.t.next) E').int=(inst { ints:=i,bools:=b,rows:=r,ids:=.nil,next:=0 } E).int:=by
   funext x; exact SI.den_le k1 _
  have e2:(inst (End.sub ⟨asm,.cut j i b r,ids,cfg⟩ u.t.next) E').bool=(inst { ints:=i,bools:=b,rows:=r,ids:=.nil,next:=0 } E).bool:=by
   funext x; exact SB.den_le k1 _
  have e3:(inst (End.sub ⟨asm,.cut j i b r,ids,cfg⟩ u.t.next) E').row=(inst { ints:=i,bools:=b,rows:=r,ids:=.nil,next:=0 } E).row:=by
   funext x y; exact SI.cells_le k1 _ _
  have hgood:=ih j u _ f' fs' w' hu (by unfold Plan.mu at *; rw[e1,e2,e3]; exact v3) (ok_same e1 e2 e3 v1) (by unfold Plan.phi at *; rw[e1,e2,e3]; exact v2) hI
  obtain⟨f2,w2,g1,g2⟩:=hgood
  exact⟨f2,w2,k2.trans g1,g2⟩
theorem plan_ok (hP:P.follows .mixedOrders=true) (p:Plan) (hok:∀ u ∈ p.us,u.t.ok=true)
  (hctl:∀ k u,p.us[k]?=some u→∀ E:Env,(p.G k).Ok E→∃ g n c,g.Ok E∧(∀ f fs w,MRel P S E u.t.cfg f fs w→MRel P S E c f fs w)∧(∀ e ∈ ends P p.us n true g c,CtlOK p.us e)∧∀ e ∈ ends P p.us n true g c,∀ E:Env,g.Ok E→p.phi k E→Facts E e.asm→LeafVC p k E e.leaf) :
  ∀ (N k:Nat) (u:Cut) (E:Env) (f:Frame) (fs:List Frame) (w:World),p.mu k E<N→p.us[k]?=some u→(p.G k).Ok E→p.phi k E→MRel P S E u.t.cfg f fs w→Good P S (lone f (fs++S.cs) w)
 | 0,_,_,_,_,_,_,h,_,_,_,_=>by omega
 | N+1,k,u,E,f,fs,w,h,hu,hG,hΦ,hM=>by
  obtain⟨g,n,c,hg,hc,h1,h2⟩:=hctl k u hu E hG
  exact part_ok hP p hok h1 h2 hg hΦ (hc _ _ _ hM) (fun j u' E' f' fs' w' hj hlt hG' hΦ' hM'=>plan_ok hP p hok hctl N j u' E' f' fs' w' (by omega) hj hG' hΦ' hM')
end Go.Ev
