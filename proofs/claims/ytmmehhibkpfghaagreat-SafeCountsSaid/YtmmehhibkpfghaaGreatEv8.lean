/- Ev, part 8: plans with a law of one's own at the cuts (Φ): what the kernel does not see by itself is shown by hand, leaf by leaf. -/
import Derived.Test.YtmmehhibkpfghaaGreatEv7
set_option linter.unusedVariables false
namespace Go.Ev
open Go.RowKit Go.ChangeShapes Go.WideShapes
open Go.ChangeShapes Go.WideShapes in
abbrev Phi:=Nat→(Nat→Int)→(Nat→Bool)→(Nat→Int→Int)→Prop
variable {P:Program} {E:Env} {G:Ctx}
def LeafIs (l:List ACut) (φ:Phi) (m:Meas) (E:Env):Leaf→Prop
 | .dead _=>False
 | .fin b=>b.den E=true
 | .cut j i b r=>∃ a,l[j]?=some a∧a.g.Ok (inst { ints:=i,bools:=b,rows:=r,ids:=.nil,next:=0 } E) ∧
   φ j (inst { ints:=i,bools:=b,rows:=r,ids:=.nil,next:=0 } E).int (inst { ints:=i,bools:=b,rows:=r,ids:=.nil,next:=0 } E).bool (inst { ints:=i,bools:=b,rows:=r,ids:=.nil,next:=0 } E).row ∧
   muOf a (fun q=>(nthS i (.lit 0) q).den E)<m.val E.int
def LeafGood (l:List ACut) (φ:Phi) (k:Nat) (m:Meas) (g:Ctx) (x:List (SB × Bool) × Leaf):Prop :=
 ∀ E:Env,({ rng:=g.rng,asm:=x.1 }:Ctx).Ok E→φ k E.int E.bool E.row→LeafIs l φ m E x.2
def LeavesGood (l:List ACut) (φ:Phi) (k:Nat) (m:Meas) (g:Ctx):List (List (SB × Bool) × Leaf)→Prop
 | []=>True
 | x::r=>LeafGood l φ k m g x∧LeavesGood l φ k m g r
theorem leavesNil {l:List ACut}{φ:Phi}{k:Nat}{m:Meas}{g:Ctx}:LeavesGood l φ k m g []:=trivial
theorem leavesCons {l:List ACut}{φ:Phi}{k:Nat}{m:Meas}{g:Ctx}{x:List (SB × Bool) × Leaf}{r:List (List (SB × Bool) × Leaf)}(h:LeafGood l φ k m g x) (hr:LeavesGood l φ k m g r):LeavesGood l φ k m g (x::r):=⟨h,hr⟩
theorem leavesGood_mem {l:List ACut}{φ:Phi}{k:Nat}{m:Meas}{g:Ctx}:∀ {d:List (List (SB × Bool) × Leaf)},LeavesGood l φ k m g d→∀ x ∈ d,LeafGood l φ k m g x
 | [],_,x,hx=>by simp at hx
 | y::r,h,x,hx=>by
  rcases List.mem_cons.1 hx with rfl | hx
  ·exact h.1
  ·exact leavesGood_mem h.2 x hx
theorem LeafGood.auto {l:List ACut}{φ:Phi}{k:Nat}{m:Meas}{g:Ctx}{x:List (SB × Bool) × Leaf}(h:leafB l m { rng:=g.rng,asm:=x.1 } x.2=true)
  (hφ:∀ j i b r,x.2=.cut j i b r→∀ E:Env,({ rng:=g.rng,asm:=x.1 }:Ctx).Ok E→φ k E.int E.bool E.row →
   φ j (inst { ints:=i,bools:=b,rows:=r,ids:=.nil,next:=0 } E).int (inst { ints:=i,bools:=b,rows:=r,ids:=.nil,next:=0 } E).bool (inst { ints:=i,bools:=b,rows:=r,ids:=.nil,next:=0 } E).row):LeafGood l φ k m g x:=by
 intro E hG hk
 have:=leafB_ok hG h
 obtain⟨asm,leaf⟩:=x
 cases leaf with
 | dead s=>exact this
 | fin b=>exact this
 | cut j i b r =>
  obtain⟨a,ha,h1,h2⟩:=this
  exact⟨a,ha,h1,hφ j i b r rfl E hG hk,h2⟩
theorem LeafGood.plain {l:List ACut}{φ:Phi}{k:Nat}{m:Meas}{g:Ctx}{a:List (SB × Bool)}{j:Nat}{i:List SI}{b:List SB}{r:List SI}(h:leafB l m { rng:=g.rng,asm:=a } (.cut j i b r)=true)
  (hφ:∀ i b r,φ j i b r):LeafGood l φ k m g (a,.cut j i b r) :=
 .auto h fun _ _ _ _ e _ _ _=>by cases e; exact hφ _ _ _
theorem LeafGood.fin {l:List ACut}{φ:Phi}{k:Nat}{m:Meas}{g:Ctx}{a:List (SB × Bool)}{b:SB}(h:leafB l m { rng:=g.rng,asm:=a } (.fin b)=true):LeafGood l φ k m g (a,.fin b) :=
 .auto h fun _ _ _ _ e _ _ _=>by cases e
theorem LeafGood.cut {l:List ACut}{φ:Phi}{k:Nat}{m:Meas}{g:Ctx}{a:List (SB × Bool)}{j:Nat}{i:List SI}{b:List SB}{r:List SI}(h:leafB l m { rng:=g.rng,asm:=a } (.cut j i b r)=true)
  (hφ:∀ E:Env,({ rng:=g.rng,asm:=a }:Ctx).Ok E→φ k E.int E.bool E.row →
   φ j (inst { ints:=i,bools:=b,rows:=r,ids:=.nil,next:=0 } E).int (inst { ints:=i,bools:=b,rows:=r,ids:=.nil,next:=0 } E).bool (inst { ints:=i,bools:=b,rows:=r,ids:=.nil,next:=0 } E).row):LeafGood l φ k m g (a,.cut j i b r) :=
 .auto h fun _ _ _ _ e E h1 h2=>by cases e; exact hφ E h1 h2
theorem LeafGood.never {l:List ACut}{φ:Phi}{k:Nat}{m:Meas}{g:Ctx}{x:List (SB × Bool) × Leaf}(h:∀ E:Env,({ rng:=g.rng,asm:=x.1 }:Ctx).Ok E→φ k E.int E.bool E.row→False):LeafGood l φ k m g x :=
 fun E hG hk=>(h E hG hk).elim
noncomputable section
def inB (n:Nat):List (List (SB × Bool) × Leaf)→Bool
 | []=>true
 | (_,.cut j _ _ _)::r=>Nat.blt j n&&inB n r
 | _::r=>inB n r
def awayB (ks:List Nat):List (List (SB × Bool) × Leaf)→Bool
 | []=>true
 | (_,.cut j _ _ _)::r=>!(ks.any (Nat.beq j))&&awayB ks r
 | _::r=>awayB ks r
end
theorem inB_mem {n:Nat}:∀ {d:List (List (SB × Bool) × Leaf)},inB n d=true→∀ a j i b r,(a,Leaf.cut j i b r) ∈ d→j<n
 | [],_,a,j,i,b,r,hx=>by simp at hx
 | (a',x)::d,h,a,j,i,b,r,hx=>by
  rcases List.mem_cons.1 hx with e | hx
  ·cases e
   simp only[inB,Bool.and_eq_true] at h
   simpa [Nat.blt_eq] using h.1
  ·have:inB n d=true:=by cases x <;> simp only[inB,Bool.and_eq_true] at h <;> first | exact h | exact h.2
   exact inB_mem this _ _ _ _ _ hx
theorem inst_int (σ:Sub) (E:Env) (i:Nat):(inst σ E).int i=(nthS σ.ints (.lit 0) i).den E:=rfl
theorem inst_bool (σ:Sub) (E:Env) (i:Nat):(inst σ E).bool i=(nthT σ.bools (.lit false) i).den E:=rfl
theorem inst_row (σ:Sub) (E:Env) (i:Nat) (j:Int):(inst σ E).row i j=(nthS σ.rows (.con 0) i).cells E j:=rfl
theorem nthS_zero (x d:SI) (l:List SI):nthS (x::l) d 0=x:=rfl
theorem nthS_succ (x d:SI) (l:List SI) (n:Nat):nthS (x::l) d (n+1)=nthS l d n:=rfl
theorem nthT_zero (x d:SB) (l:List SB):nthT (x::l) d 0=x:=rfl
theorem nthT_succ (x d:SB) (l:List SB) (n:Nat):nthT (x::l) d (n+1)=nthT l d n:=rfl
theorem fact_et {E:Env}{a b:SI}(h:SB.den E (.eql a b)=true):a.den E=b.den E:=by simpa [SB.den] using h
theorem fact_ef {E:Env}{a b:SI}(h:SB.den E (.eql a b)=false):¬ a.den E=b.den E:=by simpa [SB.den] using h
theorem fact_lt {E:Env}{a b:SI}(h:SB.den E (.lss a b)=true):a.den E<b.den E:=by simpa [SB.den] using h
theorem fact_lf {E:Env}{a b:SI}(h:SB.den E (.lss a b)=false):¬ a.den E<b.den E:=by simpa [SB.den] using h
theorem fact_v {E:Env}{i:Nat}{t:Bool}(h:SB.den E (.var i)=t):E.bool i=t:=h
theorem cells_ne {E:Env}{a i v:SI}{j:Int}(h:¬ j=i.den E):SI.cells E (.upd a i v) j=SI.cells E a j:=by simp only[SI.cells]; exact if_neg h
theorem cells_eq {E:Env}{a i v:SI}{j:Int}(h:j=i.den E):SI.cells E (.upd a i v) j=v.den E:=by simp only[SI.cells]; exact if_pos h
theorem facts_nil {E:Env}:(∀ p ∈ ([]:List (SB × Bool)),SB.den E p.1=p.2)↔True:=by simp
theorem facts_cons {E:Env}{x:SB × Bool}{l:List (SB × Bool)}:(∀ p ∈ x::l,SB.den E p.1=p.2)↔(SB.den E x.1=x.2∧∀ p ∈ l,SB.den E p.1=p.2):=by simp
theorem den_tmod {a b:Int}(h:0≤a):a.tmod b=a % b:=Int.tmod_eq_emod_of_nonneg h
def PartΦ (P:Program) (l:List ACut) (φ:Phi) (k:Nat) (m:Meas) (go:Bool) (g:Ctx) (c:Cfg):Prop :=
 ∃ n d,fullE (l.map ACut.u) (ends P (l.map ACut.u) n go g c)=fullD (l.map ACut.u) d∧inB l.length d=true∧LeavesGood l φ k m g d
theorem leavesAuto {l:List ACut}{φ:Phi}{k:Nat}{m:Meas}{g:Ctx}{ks:List Nat}(hφ:∀ j,ks.any (Nat.beq j)=false→∀ i b r,φ j i b r):∀ {d:List (List (SB × Bool) × Leaf)},partB l m g.rng d=true→awayB ks d=true→LeavesGood l φ k m g d
 | [],_,_=>trivial
 | (a,x)::r,h1,h2=>by
  simp only[partB,Bool.and_eq_true] at h1
  have h3:awayB ks r=true:=by
   cases x <;> simp only[awayB,Bool.and_eq_true] at h2 <;> first | exact h2 | exact h2.2
  refine⟨.auto h1.1 fun j i b r e E _ _=>?_,leavesAuto hφ h1.2 h3⟩
  simp only at e
  subst e
  simp only[awayB,Bool.and_eq_true,Bool.not_eq_true'] at h2
  exact hφ j h2.1 _ _ _
theorem PartΦ.auto {l:List ACut}{φ:Phi}{k:Nat}{m:Meas}{go:Bool}{g:Ctx}{c:Cfg}{ks:List Nat}(hφ:∀ j,ks.any (Nat.beq j)=false→∀ i b r,φ j i b r) (n:Nat) (d:List (List (SB × Bool) × Leaf))
  (h1:fullE (l.map ACut.u) (ends P (l.map ACut.u) n go g c)=fullD (l.map ACut.u) d) (h2:partB l m g.rng d=true) (h3:awayB ks d=true) (h4:inB l.length d=true):PartΦ P l φ k m go g c :=
 ⟨n,d,h1,h4,leavesAuto hφ h2 h3⟩
theorem PartΦ.of {l:List ACut}{φ:Phi}{k:Nat}{m:Meas}{go:Bool}{g:Ctx}{c:Cfg}(n:Nat) (d:List (List (SB × Bool) × Leaf))
  (h1:fullE (l.map ACut.u) (ends P (l.map ACut.u) n go g c)=fullD (l.map ACut.u) d) (h3:inB l.length d=true) (h2:LeavesGood l φ k m g d):PartΦ P l φ k m go g c :=
 ⟨n,d,h1,h3,h2⟩
structure Chk (φ:Phi) where
 t:Nat→Ctx→Nat→List SI→List SB→List SI→Bool
 nev:Nat→Ctx→Bool
 tok:∀ k G j i b r,t k G j i b r=true→∀ E:Env,G.Ok E→φ k E.int E.bool E.row →
  φ j (inst { ints:=i,bools:=b,rows:=r,ids:=.nil,next:=0 } E).int (inst { ints:=i,bools:=b,rows:=r,ids:=.nil,next:=0 } E).bool (inst { ints:=i,bools:=b,rows:=r,ids:=.nil,next:=0 } E).row
 nok:∀ k G,nev k G=true→∀ E:Env,G.Ok E→φ k E.int E.bool E.row→False
noncomputable section
def Chk.at {φ:Phi} (c:Chk φ) (k:Nat) (G:Ctx):Leaf→Bool
 | .cut j i b r=>c.t k G j i b r
 | _=>true
def Chk.off {φ:Phi} (c:Chk φ) (k:Nat) (rng:List (Option (Int × Int))) (a:List (SB × Bool)):Leaf→Bool
 | .fin b=>c.nev k { rng,asm:=(b,false)::a }
 | _=>c.nev k { rng,asm:=a }
def Chk.all {φ:Phi} (c:Chk φ) (l:List ACut) (k:Nat) (m:Meas) (rng:List (Option (Int × Int))):List (List (SB × Bool) × Leaf)→Bool
 | []=>true
 | x::r=>((leafB l m { rng,asm:=x.1 } x.2&&c.at k { rng,asm:=x.1 } x.2)||c.off k rng x.1 x.2)&&c.all l k m rng r
end
theorem Chk.good {φ:Phi}(c:Chk φ) {l:List ACut}{k:Nat}{m:Meas}{g:Ctx}:∀ {d:List (List (SB × Bool) × Leaf)},c.all l k m g.rng d=true→LeavesGood l φ k m g d
 | [],_=>trivial
 | (a,x)::r,h=>by
  simp only[Chk.all,Bool.and_eq_true,Bool.or_eq_true] at h
  refine⟨?_,c.good h.2⟩
  rcases h.1 with ⟨h1,h2⟩ | h1
  rotate_left
  ·cases x with
   | fin b =>
    intro E hG hk
    show b.den E=true
    cases hb:b.den E with
    | true=>rfl
    | false=>exact(c.nok k _ h1 E (hG.cons hb) hk).elim
   | _=>exact .never fun E hG hk=>c.nok k _ h1 E hG hk
  ·exact .auto h1 fun j i b r e E hG hk=>by
    simp only at e
    subst e
    exact c.tok k _ j i b r h2 E hG hk
theorem PartΦ.chk {l:List ACut}{φ:Phi}{k:Nat}{m:Meas}{go:Bool}{g:Ctx}{cf:Cfg}(c:Chk φ) (n:Nat) (d:List (List (SB × Bool) × Leaf))
  (h1:fullE (l.map ACut.u) (ends P (l.map ACut.u) n go g cf)=fullD (l.map ACut.u) d) (h3:inB l.length d=true) (h2:c.all l k m g.rng d=true):PartΦ P l φ k m go g cf :=
 ⟨n,d,h1,h3,c.good h2⟩
inductive CoversΦ (P:Program) (l:List ACut) (φ:Phi) (k:Nat) (m:Meas) (go:Bool):Cfg→Ctx→Prop where
 | run {c:Cfg} {g:Ctx}:PartΦ P l φ k m go g c→CoversΦ P l φ k m go c g
 | fork {c:Cfg} {g:Ctx} (b:SB):CoversΦ P l φ k m go (c.refine { rng:=g.rng,asm:=(b,true)::g.asm }) { rng:=g.rng,asm:=(b,true)::g.asm }→CoversΦ P l φ k m go (c.refine { rng:=g.rng,asm:=(b,false)::g.asm }) { rng:=g.rng,asm:=(b,false)::g.asm }→CoversΦ P l φ k m go c g
theorem CoversΦ.at {l:List ACut}{φ:Phi}{k:Nat}{m:Meas}{go:Bool}{c:Cfg}{g:Ctx}(h:CoversΦ P l φ k m go c g) {E:Env}(hG:g.Ok E):∃ (g':Ctx) (c':Cfg),g'.Ok E∧(∀ (S:Start) f fs w,MRel P S E c f fs w→MRel P S E c' f fs w)∧PartΦ P l φ k m go g' c':=by
 induction h with
 | run h=>exact⟨_,_,hG,fun _ _ _ _ h=>h,h⟩
 | fork b _ _ ih1 ih2 =>
  cases hb:b.den E with
  | true=>obtain⟨g',c',h1,h2,h3⟩:=ih1 (hG.cons hb); exact⟨g',c',h1,fun S f fs w h=>h2 S f fs w (h.refine (hG.cons hb)),h3⟩
  | false=>obtain⟨g',c',h1,h2,h3⟩:=ih2 (hG.cons hb); exact⟨g',c',h1,fun S f fs w h=>h2 S f fs w (h.refine (hG.cons hb)),h3⟩
def AllPartsΦ (P:Program) (l:List ACut) (φ:Phi):Nat→List ACut→Prop
 | _,[]=>True
 | k,a::r=>CoversΦ P l φ k a.ms true a.u.t.cfg a.g∧AllPartsΦ P l φ (k+1) r
theorem allPartsΦ_ok {l:List ACut}{φ:Phi}:∀ {m:List ACut}{o:Nat},AllPartsΦ P l φ o m→∀ (k:Nat) (a:ACut),m[k]?=some a→CoversΦ P l φ (o+k) a.ms true a.u.t.cfg a.g
 | [],_,_,k,a,h=>by simp at h
 | x::r,o,h,0,a,ha=>by simp at ha; subst ha; exact h.1
 | x::r,o,h,k+1,a,ha=>by
  have:=allPartsΦ_ok h.2 k a (by simpa using ha)
  rw[show o+(k+1)=o+1+k by omega]; exact this
theorem PartΦ.split {l:List ACut}{φ:Phi}{g0:Ctx}{top:Nat}{m:Meas}{go:Bool}{g:Ctx}{c:Cfg}{k:Nat}(h:PartΦ P l φ k m go g c)
  (hm:∀ i b r,(autoPlan l g0 top φ).μ k i b r=m.val i) :
  ∃ n,(∀ e ∈ ends P (autoPlan l g0 top φ).us n go g c,CtlOK (autoPlan l g0 top φ).us e) ∧
   ∀ e ∈ ends P (autoPlan l g0 top φ).us n go g c,∀ E:Env,g.Ok E→(autoPlan l g0 top φ).phi k E→Facts E e.asm→LeafVC (autoPlan l g0 top φ) k E e.leaf:=by
 obtain⟨n,d,h1,h3,h2⟩:=h
 have lv:∀ e ∈ ends P (autoPlan l g0 top φ).us n go g c,LeafGood l φ k m g e.data:=fun e he=>leavesGood_mem h2 _ (full_ok h1 e he).1
 refine⟨n,fun e he=>?_,fun e he E hG hk hf=>?_⟩
 ·have hc:=(full_ok h1 e he).2
  have hd:=(full_ok h1 e he).1
  obtain⟨asm,leaf,ids,cfg⟩:=e
  unfold CtlOK
  cases leaf with
  | dead s=>trivial
  | fin b=>trivial
  | cut j i b r =>
   simp only[ctlOf,ctlOfL] at hc
   show match (l.map ACut.u)[j]? with | some u=>_ | none=>False
   cases hu:(l.map ACut.u)[j]? with
   | some u=>rw[hu] at hc; exact hc.symm
   | none =>
    exfalso
    have:=inB_mem h3 _ _ _ _ _ hd
    simp at hu
    omega
 ·have hl:=lv e he E ⟨hG.1,hf⟩ hk
  obtain⟨asm,leaf,ids,cfg⟩:=e
  cases leaf with
  | dead s=>exact hl
  | fin b=>exact hl
  | cut j i b r =>
   obtain⟨a,ha,k1,k2,k3⟩:=hl
   refine⟨?_,k2,?_⟩
   ·show ((autoPlan l g0 top φ).G j).Ok _
    simp only[autoPlan,ha]
    exact k1
   ·unfold Plan.mu
    rw[hm]
    simp only[autoPlan,ha]
    exact k3
theorem calls_genΦ (hP:P.follows .mixedOrders=true) {g:FuncId}{args:List AV}{vs:List Value}{E:Env}{H:AHeap}{G:Ctx}(l:List ACut) (φ:Phi) (top:Nat) (hok:allOK l=true)
  (hparts:∀ (k:Nat) (a:ACut),l[k]?=some a→CoversΦ P l φ k a.ms true a.u.t.cfg a.g)
  {c:Cfg} (hs:start P g args H=some c) (hstart:CoversΦ P l φ l.length { rank:=top } false c G) (w:World) (hG:G.Ok E) (hΦ:φ l.length E.int E.bool E.row) (hv:VRelL E args vs) (hH:HRel E H w) (hrw:∀ a,¬ Live E H a) :
  Calls P g vs.toArray w fun e w'=>e=.returned (.bool true)∧Below w.heap.size w w':=by
 intro cs
 unfold start at hs
 cases hen:enterFrame P g args false with
 | none=>rw[hen] at hs; simp at hs
 | some fr =>
  rw[hen] at hs
  simp at hs
  subst hs
  obtain⟨h1,h2,h3,_,_⟩:=enter_ok (w:=w) hv hen
  have hM:MRel P { A:=fun _=>False,cs,fn:=g,w } E { fr,callers:=[],heap:=H } (Frame.enter P g vs.toArray .normal) [] w :=
   ⟨h1,h2,rfl,hH,⟨rfl,rfl,rfl,Nat.le_refl _,fun _ _ _=>rfl⟩,fun a ha=>absurd ha (hrw a),by simp [botFn,h3]⟩
  let p:=autoPlan l G top φ
  have hokp:∀ u ∈ p.us,u.t.ok=true:=fun u hu=>by
   obtain⟨a,ha,rfl⟩:=List.mem_map.1 hu
   exact List.all_eq_true.1 hok a ha
  have hnone:l[l.length]?=none:=List.getElem?_eq_none (Nat.le_refl _)
  obtain⟨g',c',hG',hM',hst⟩:=hstart.at hG
  obtain⟨n,hc,hvc⟩:=PartΦ.split hst (g0:=G) (top:=top) (fun i b r=>by simp only[autoPlan,hnone])
  have hall:∀ k u,p.us[k]?=some u→∀ E:Env,(p.G k).Ok E→∃ g1 n c,g1.Ok E∧(∀ f fs w1,MRel P { A:=fun _=>False,cs,fn:=g,w } E u.t.cfg f fs w1→MRel P { A:=fun _=>False,cs,fn:=g,w } E c f fs w1)∧(∀ e ∈ ends P p.us n true g1 c,CtlOK p.us e)∧∀ e ∈ ends P p.us n true g1 c,∀ E:Env,g1.Ok E→p.phi k E→Facts E e.asm→LeafVC p k E e.leaf:=by
   intro k u hu E hE
   simp only[p,autoPlan,List.getElem?_map] at hu
   cases ha:l[k]? with
   | none=>rw[ha] at hu; simp at hu
   | some a =>
    rw[ha] at hu
    simp at hu
    subst hu
    have hE':a.g.Ok E:=by simpa only[p,autoPlan,ha] using hE
    obtain⟨g',c',hg',hc',hp'⟩:=(hparts k a ha).at hE'
    obtain⟨n,h1,h2⟩:=PartΦ.split hp' (g0:=G) (top:=top) (fun i b r=>by simp only[autoPlan,ha,muOf])
    exact⟨g',n,c',hg',hc' _,h1,h2⟩
  have hgood:=part_ok hP p hokp (k:=l.length) hc hvc hG' hΦ (hM' _ _ _ _ hM)
   (fun j u E' f' fs' w' hj hlt hG' hΦ' hM'=>plan_ok hP p hokp hall (p.mu j E'+1) j u E' f' fs' w' (by omega) hj hG' hΦ' hM')
  obtain⟨f',w',e3,e4,e5,e8⟩:=hgood
  exact⟨.returned (.bool true),w',f',⟨rfl,⟨e8.os,e8.tape,e8.output,e8.size,fun b hb=>e8.block b hb (fun x=>x)⟩⟩,e3,e4,e5⟩
theorem calls_shapeΦ (hP:P.follows .mixedOrders=true) {g:FuncId}{shs:List (Bool × List CS)}{l:List ACut}{φ:Phi}{top:Nat}(hok:allOK l=true) (hparts:AllPartsΦ P l φ 0 l)
  (hs:(start P g (avP shs 0) (heapP shs)).isSome=true) (hstart:CoversΦ P l φ l.length { rank:=top } false (startP P g shs) (ctxP shs)) (hΦ:∀ i b r,φ l.length i b r) (w:World) {vs:List Value} {cds:List CD} (hf:FitP w shs vs cds) :
  Calls P g vs.toArray w fun e w'=>e=.returned (.bool true)∧Below w.heap.size w w':=by
 obtain⟨us,hu⟩:=hf.cells
 obtain⟨h1,h2⟩:=heapP_rel hu
 exact calls_genΦ hP l φ top hok (fun k a ha=>by have:=allPartsΦ_ok hparts k a ha; rwa [Nat.zero_add] at this) (startP_ok hs) hstart w (ctxP_ok hu) (hΦ _ _ _) (params_rel hf (fun j _=>by rw[Nat.zero_add])) h1 h2
end Go.Ev
