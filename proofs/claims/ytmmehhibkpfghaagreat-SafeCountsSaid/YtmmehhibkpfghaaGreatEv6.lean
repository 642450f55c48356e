/- Ev, part 6: plans whose parts the kernel looks at by itself: numbers' bounds, what is known at a cut, and what falls. -/
import Derived.Test.YtmmehhibkpfghaaGreatEv5
set_option linter.unusedVariables false
namespace Go.Ev
noncomputable section
structure Meas where
 rank:Nat
 mv:Option (Nat × Int):=none
 sub1:Nat:=0
 mw:Option (Nat × Int):=none
 sub:Nat:=0
 mv2:Option (Nat × Int):=none
structure ACut where
 u:Cut
 g:Ctx
 ms:Meas
def mvVal (mv:Option (Nat × Int)) (i:Nat→Int):Nat:=match mv with
 | some (v,c)=>(c-i v).toNat
 | none=>0
def Meas.val (m:Meas) (i:Nat→Int):Nat:=((m.rank*1073741824+mvVal m.mv i)*1099511627776+(m.sub1*1073741824+mvVal m.mw i))*1099511627776+(m.sub*1048576+mvVal m.mv2 i)
def muOf (a:ACut) (i:Nat→Int):Nat:=a.ms.val i
def autoPlan (l:List ACut) (g0:Ctx) (top:Nat) (φ:Nat→(Nat→Int)→(Nat→Bool)→(Nat→Int→Int)→Prop):Plan :=
 {us:=l.map ACut.u
  G:=fun k=>match l[k]? with | some a=>a.g | none=>g0
  Φ:=φ
  μ:=fun k i _ _=>match l[k]? with | some a=>muOf a i | none=>({ rank:=top }:Meas).val i }
def notB (o:Option Bool):Bool:=match o with
 | some t=>!t
 | none=>false
def betwB (G:Ctx) (a:SI) (r:Int × Int):Bool:=notB ((SB.lss a (.lit r.1)).know G)&&notB ((SB.lss (.lit r.2) a).know G)
def withinB (r:Int × Int) (o:Option (Int × Int)):Bool:=match o with
 | some q=>decide (r.1≤q.1∧q.2≤r.2)
 | none=>false
def rngB (G:Ctx) (σ:List SI):List (Option (Int × Int))→Nat→Bool
 | [],_=>true
 | none::l,i=>rngB G σ l (i+1)
 | some r::l,i=>(match nthS σ (.lit 0) i with
  | a=>withinB r (a.range G)||withinB r (a.rangeT G)||betwB G a r)&&rngB G σ l (i+1)
def asmB (G:Ctx) (σ:Sub):List (SB × Bool)→Bool
 | []=>true
 | (b,t)::l=>(match (b.subst G σ).know G with
  | some u=>u == t
  | none=>false)&&asmB G σ l
def lessB (G:Ctx) (a b:SI):Bool :=
 (decide (a.base.1=b.base.1)&&decide (a.base.2.1=b.base.2.1)&&decide (a.base.2.2<b.base.2.2))||(match knowT G (.lss a b) with
  | some t=>t
  | none=>false)
def mvIn (g:Ctx) (n:Int):Option (Nat × Int)→Bool
 | some (v,c)=>(match g.rng[v]? with
  | some (some r)=>decide (c-r.1<n)&&decide (r.2≤c)
  | _=>false)
 | none=>true
def mvFit (a:ACut):Bool:=mvIn a.g 1073741824 a.ms.mv&&mvIn a.g 1073741824 a.ms.mw&&mvIn a.g 1048576 a.ms.mv2&&Nat.blt a.ms.sub 1048576&&Nat.blt a.ms.sub1 1024
def eqB (G:Ctx) (a b:SI):Bool:=if a=b then true else (match (mkEql G a b).know G with | some t=>t | none=>false)
def lowB (G:Ctx) (m:Meas) (a:ACut) (σ:List SI):Bool:=Nat.blt a.ms.sub m.sub||(Nat.beq a.ms.sub m.sub&&match m.mv2,a.ms.mv2 with
 | some (v,c),some (w,d)=>decide (c=d)&&lessB G (.var v) (nthS σ (.lit 0) w)
 | _,_=>false)
def lexB (G:Ctx) (σ:List SI) (p q:Option (Nat × Int)) (low:Bool):Bool:=match p,q with
 | some (v,c),some (w,d)=>decide (c=d)&&(lessB G (.var v) (nthS σ (.lit 0) w)||(eqB G (.var v) (nthS σ (.lit 0) w)&&low))
 | none,none=>low
 | _,_=>false
def fallB (G:Ctx) (m:Meas) (a:ACut) (σ:List SI):Bool :=
 mvFit a&&(Nat.blt a.ms.rank m.rank||(Nat.beq a.ms.rank m.rank&&lexB G σ m.mv a.ms.mv (Nat.blt a.ms.sub1 m.sub1||(Nat.beq a.ms.sub1 m.sub1&&lexB G σ m.mw a.ms.mw (lowB G m a σ)))))
def leafB (l:List ACut) (m:Meas) (G:Ctx):Leaf→Bool
 | .dead _=>false
 | .fin b=>(match b.know G with | some t=>t | none=>false)
 | .cut j i b r=>match l[j]? with
  | some a=>rngB G i a.g.rng 0&&asmB G { ints:=i,bools:=b,rows:=r,ids:=.nil,next:=0 } a.g.asm&&fallB G m a i
  | none=>false
def partB (l:List ACut) (m:Meas) (rng:List (Option (Int × Int))):List (List (SB × Bool) × Leaf)→Bool
 | []=>true
 | x::r=>leafB l m { rng,asm:=x.1 } x.2&&partB l m rng r
end
variable {E:Env} {G:Ctx}
theorem lessB_ok (hG:G.Ok E) {a b:SI}(h:lessB G a b=true):a.den E<b.den E:=by
 unfold lessB at h
 rw[Bool.or_eq_true] at h
 rcases h with h | h
 ·simp only[Bool.and_eq_true,decide_eq_true_eq] at h
  obtain⟨⟨h1,h2⟩,h3⟩:=h
  have ha:=(SI.base_ok (E:=E) a).1
  have hb:=(SI.base_ok (E:=E) b).1
  rw[h1,h2] at ha
  omega
 ·split at h
  ·rename_i t ht
   subst h
   have:=knowT_ok hG ht
   simpa [SB.den] using this
  ·simp at h
theorem withinB_ok {r:Int × Int}{o:Option (Int × Int)}(h:withinB r o=true):∃ q,o=some q∧r.1≤q.1∧q.2≤r.2:=by
 unfold withinB at h
 split at h
 ·exact⟨_,rfl,of_decide_eq_true h⟩
 ·simp at h
theorem notB_ok {o:Option Bool}(h:notB o=true):o=some false:=by
 unfold notB at h
 split at h
 ·rename_i t; cases t
  ·rfl
  ·simp at h
 ·simp at h
theorem rngB_ok (hG:G.Ok E) {σ:List SI}:∀ {l:List (Option (Int × Int))}{i:Nat},rngB G σ l i=true→∀ j r,l[j]?=some (some r)→r.1≤(nthS σ (.lit 0) (i+j)).den E∧(nthS σ (.lit 0) (i+j)).den E≤r.2
 | [],_,_,j,r,hr=>by simp at hr
 | none::l,i,h,j,r,hr=>by
  simp only[rngB] at h
  cases j with
  | zero=>simp at hr
  | succ j =>
   have:=rngB_ok hG h j r (by simpa using hr)
   rw[show i+(j+1)=i+1+j by omega]; exact this
 | some q::l,i,h,j,r,hr=>by
  simp only[rngB,Bool.and_eq_true] at h
  obtain⟨h1,h2⟩:=h
  cases j with
  | zero =>
   simp at hr; subst hr
   rw[Bool.or_eq_true,Bool.or_eq_true] at h1
   rcases h1 with (h1 | h1) | h1
   ·obtain⟨x,hx,h1⟩:=withinB_ok h1
    have:=SI.range_ok hG hx
    rw[Nat.add_zero]
    omega
   ·obtain⟨x,hx,h1⟩:=withinB_ok h1
    have:=SI.rangeT_ok hG hx
    rw[Nat.add_zero]
    omega
   ·unfold betwB at h1
    rw[Bool.and_eq_true] at h1
    obtain⟨ha,hb⟩:=h1
    have ha:=SB.know_ok hG (notB_ok ha)
    have hb:=SB.know_ok hG (notB_ok hb)
    have ha:=of_decide_eq_false (show decide (_<_)=false from ha)
    have hb:=of_decide_eq_false (show decide (_<_)=false from hb)
    simp only[SI.den] at ha hb
    rw[Nat.add_zero]
    omega
  | succ j =>
   have:=rngB_ok hG h2 j r (by simpa using hr)
   rw[show i+(j+1)=i+1+j by omega]; exact this
theorem asmB_ok (hG:G.Ok E) {σ:Sub}:∀ {l:List (SB × Bool)},asmB G σ l=true→∀ p ∈ l,SB.den (inst σ E) p.1=p.2
 | [],_,p,hp=>by simp at hp
 | (b,t)::l,h,p,hp=>by
  simp only[asmB,Bool.and_eq_true] at h
  obtain⟨h1,h2⟩:=h
  rcases List.mem_cons.1 hp with rfl | hp
  ·split at h1
   ·rename_i u hu
    have:=SB.know_ok hG hu
    rw[substB_den hG] at this
    have h1:u=t:=by simpa using h1
    rw[← h1]; exact this
   ·simp at h1
  ·exact asmB_ok hG h2 p hp
theorem eqB_ok (hG:G.Ok E) {a b:SI}(h:eqB G a b=true):a.den E=b.den E:=by
 unfold eqB at h
 split at h
 ·rename_i e; rw[e]
 ·split at h
  ·rename_i t ht
   subst h
   have:=SB.know_ok hG ht
   rw[mkEql_den hG] at this
   simpa using this
  ·simp at h
theorem mvIn_ok {g:Ctx}{n:Int}{mv:Option (Nat × Int)}{σ:List SI}(h:mvIn g n mv=true) (hr:∀ j r,g.rng[j]?=some (some r)→r.1≤(nthS σ (.lit 0) j).den E∧(nthS σ (.lit 0) j).den E≤r.2) :
  (0<n→(mvVal mv (fun i=>(nthS σ (.lit 0) i).den E):Int)<n)∧∀ v c,mv=some (v,c)→(nthS σ (.lit 0) v).den E≤c:=by
 cases mv with
 | none=>exact⟨fun h=>by simpa [mvVal] using h,fun v c h=>by simp at h⟩
 | some p =>
  obtain⟨v,c⟩:=p
  simp only[mvIn] at h
  split at h
  ·rename_i r hr'
   simp only[Bool.and_eq_true,decide_eq_true_eq] at h
   have:=hr _ _ hr'
   refine⟨fun _=>?_,fun v' c' e=>?_⟩
   ·simp only[mvVal]; omega
   ·simp at e; obtain⟨rfl,rfl⟩:=e; omega
  ·simp at h
theorem lex_up {B a a' x x':Nat}(h:a<a') (hx:x<B):a*B+x<a'*B+x':=by
 have:=Nat.mul_le_mul_right B (show a+1≤a' by omega)
 rw[Nat.add_mul,Nat.one_mul] at this
 omega
theorem lexB_ok (hG:G.Ok E) {σ:List SI}{p q:Option (Nat × Int)}{low:Bool}{B lo lo':Nat}(h:lexB G σ p q low=true) (hc:∀ v c,q=some (v,c)→(nthS σ (.lit 0) v).den E≤c) (hlo:lo<B) (hl:low=true→lo<lo') (R:Nat) :
  (R+mvVal q (fun i=>(nthS σ (.lit 0) i).den E))*B+lo<(R+mvVal p E.int)*B+lo':=by
 unfold lexB at h
 split at h
 ·rename_i v c w d
  simp only[Bool.and_eq_true,Bool.or_eq_true,decide_eq_true_eq] at h
  obtain⟨rfl,h⟩:=h
  have hc:=hc _ _ rfl
  have e1:mvVal (some (v,c)) E.int=(c-E.int v).toNat:=rfl
  have e2:mvVal (some (w,c)) (fun i=>(nthS σ (.lit 0) i).den E)=(c-(nthS σ (.lit 0) w).den E).toNat:=rfl
  rw[e1,e2]
  rcases h with h | ⟨h,h'⟩
  ·have h3:=lessB_ok hG h
   simp only[SI.den] at h3
   exact lex_up (by omega) hlo
  ·have h3:=eqB_ok hG h
   simp only[SI.den] at h3
   have:=hl h'
   rw[h3]
   omega
 ·have:=hl h
  show (R+0)*B+lo<(R+0)*B+lo'
  omega
 ·simp at h
theorem lex3 (hG:G.Ok E) {σ:List SI}{p q:Option (Nat × Int)}{low:Bool}{R B C w w' lo lo':Nat}(h:lexB G σ p q low=true) (hc:∀ v c,q=some (v,c)→(nthS σ (.lit 0) v).den E≤c) (hw:w<B) (hlo:lo<C)
  (hl:∀ R,low=true→(R+w)*C+lo<(R+w')*C+lo') :
  ((R+mvVal q (fun i=>(nthS σ (.lit 0) i).den E))*B+w)*C+lo<((R+mvVal p E.int)*B+w')*C+lo':=by
 unfold lexB at h
 split at h
 ·rename_i v c w d
  simp only[Bool.and_eq_true,Bool.or_eq_true,decide_eq_true_eq] at h
  obtain⟨rfl,h⟩:=h
  have hc:=hc _ _ rfl
  have e1:mvVal (some (v,c)) E.int=(c-E.int v).toNat:=rfl
  have e2:mvVal (some (w,c)) (fun i=>(nthS σ (.lit 0) i).den E)=(c-(nthS σ (.lit 0) w).den E).toNat:=rfl
  rw[e1,e2]
  rcases h with h | ⟨h,h'⟩
  ·have h3:=lessB_ok hG h
   simp only[SI.den] at h3
   exact lex_up (lex_up (by omega) hw) hlo
  ·have h3:=eqB_ok hG h
   simp only[SI.den] at h3
   rw[h3]
   exact hl _ h'
 ·exact hl _ h
 ·simp at h
theorem comp_lt {s x:Nat}(hs:s<1024) (hx:x<1073741824):s*1073741824+x<1099511627776:=by omega
theorem low_lt {s x:Nat}(hs:s<1048576) (hx:x<1048576):s*1048576+x<1099511627776:=by omega
theorem inner1 {R s t x y lo lo':Nat}(h:s<t) (hx:x<1073741824) (hlo:lo<1099511627776):(R+(s*1073741824+x))*1099511627776+lo<(R+(t*1073741824+y))*1099511627776+lo' :=
 lex_up (by omega) hlo
theorem fallB_ok (hG:G.Ok E) {m:Meas}{a:ACut}{σ:List SI}(h:fallB G m a σ=true) (hr:∀ j r,a.g.rng[j]?=some (some r)→r.1≤(nthS σ (.lit 0) j).den E∧(nthS σ (.lit 0) j).den E≤r.2) :
  muOf a (fun i=>(nthS σ (.lit 0) i).den E)<m.val E.int:=by
 unfold fallB at h
 simp only[Bool.and_eq_true,Bool.or_eq_true] at h
 obtain⟨hf,h⟩:=h
 unfold mvFit at hf
 simp only[Bool.and_eq_true] at hf
 obtain⟨⟨⟨⟨f1,fw⟩,f2⟩,f3⟩,f4⟩:=hf
 obtain⟨b1,c1⟩:=mvIn_ok (E:=E) f1 hr
 obtain⟨bw,cw⟩:=mvIn_ok (E:=E) fw hr
 obtain⟨b2,c2⟩:=mvIn_ok (E:=E) f2 hr
 have b1:=Int.ofNat_lt.1 (b1 (by decide))
 have bw:=Int.ofNat_lt.1 (bw (by decide))
 have b2:=Int.ofNat_lt.1 (b2 (by decide))
 have f3:a.ms.sub<1048576:=by simpa [Nat.blt_eq] using f3
 have f4:a.ms.sub1<1024:=by simpa [Nat.blt_eq] using f4
 unfold muOf Meas.val
 have low:lowB G m a σ=true→a.ms.sub*1048576+mvVal a.ms.mv2 (fun i=>(nthS σ (.lit 0) i).den E)<m.sub*1048576+mvVal m.mv2 E.int:=by
  intro hl
  unfold lowB at hl
  simp only[Bool.and_eq_true,Bool.or_eq_true] at hl
  rcases hl with hl | ⟨h1,h2⟩
  ·have:a.ms.sub<m.sub:=by simpa [Nat.blt_eq] using hl
   omega
  ·have h1:a.ms.sub=m.sub:=Nat.eq_of_beq_eq_true h1
   split at h2
   ·rename_i v c w d hm ha
    simp only[Bool.and_eq_true,decide_eq_true_eq] at h2
    obtain⟨rfl,h3⟩:=h2
    have h3:=lessB_ok hG h3
    have:=c2 _ _ ha
    have e1:mvVal m.mv2 E.int=(c-E.int v).toNat:=by rw[hm]; rfl
    have e2:mvVal a.ms.mv2 (fun i=>(nthS σ (.lit 0) i).den E)=(c-(nthS σ (.lit 0) w).den E).toNat:=by rw[ha]; rfl
    rw[h1,e1,e2]
    simp only[SI.den] at h3
    omega
   ·simp at h2
 have hlo:a.ms.sub*1048576+mvVal a.ms.mv2 (fun i=>(nthS σ (.lit 0) i).den E)<1099511627776:=low_lt f3 b2
 rcases h with h | ⟨h1,h2⟩
 ·have h:a.ms.rank<m.rank:=by simpa [Nat.blt_eq] using h
  exact lex_up (lex_up (lex_up h b1) (comp_lt f4 bw)) hlo
 ·have h1:a.ms.rank=m.rank:=Nat.eq_of_beq_eq_true h1
  rw[h1]
  -- the first number,then the second,then what is beneath
  have inner:∀ R,(Nat.blt a.ms.sub1 m.sub1||(Nat.beq a.ms.sub1 m.sub1&&lexB G σ m.mw a.ms.mw (lowB G m a σ)))=true →
    (R+(a.ms.sub1*1073741824+mvVal a.ms.mw (fun i=>(nthS σ (.lit 0) i).den E)))*1099511627776+(a.ms.sub*1048576+mvVal a.ms.mv2 (fun i=>(nthS σ (.lit 0) i).den E)) <
    (R+(m.sub1*1073741824+mvVal m.mw E.int))*1099511627776+(m.sub*1048576+mvVal m.mv2 E.int):=by
   intro R hl
   simp only[Bool.or_eq_true,Bool.and_eq_true] at hl
   rcases hl with hl | ⟨h3,h4⟩
   ·have hs:a.ms.sub1<m.sub1:=by simpa [Nat.blt_eq] using hl
    exact inner1 hs bw hlo
   ·have h3:a.ms.sub1=m.sub1:=Nat.eq_of_beq_eq_true h3
    have e:∀ x,R+(m.sub1*1073741824+x)=(R+m.sub1*1073741824)+x:=fun x=>(Nat.add_assoc _ _ _).symm
    rw[h3,e,e]
    exact lexB_ok hG h4 cw hlo low _
  exact lex3 hG h2 c1 (comp_lt f4 bw) hlo inner
theorem partB_mem {l:List ACut}{m:Meas}{rng:List (Option (Int × Int))}:∀ {d:List (List (SB × Bool) × Leaf)},partB l m rng d=true→∀ x ∈ d,leafB l m { rng,asm:=x.1 } x.2=true
 | [],_,x,hx=>by simp at hx
 | y::r,h,x,hx=>by
  simp only[partB,Bool.and_eq_true] at h
  rcases List.mem_cons.1 hx with rfl | hx
  ·exact h.1
  ·exact partB_mem h.2 x hx
theorem leafB_ok (hG:G.Ok E) {l:List ACut}{m:Meas}{x:Leaf}(h:leafB l m G x=true) :
  match x with
  | .dead _=>False
  | .fin b=>b.den E=true
  | .cut j i b r=>∃ a,l[j]?=some a∧a.g.Ok (inst { ints:=i,bools:=b,rows:=r,ids:=.nil,next:=0 } E) ∧
   muOf a (fun q=>(nthS i (.lit 0) q).den E)<m.val E.int:=by
 cases x with
 | dead s=>simp [leafB] at h
 | fin b =>
  simp only[leafB] at h
  split at h
  ·rename_i t ht; subst h; exact SB.know_ok hG ht
  ·simp at h
 | cut j i b r =>
  simp only[leafB] at h
  split at h
  ·rename_i a ha
   simp only[Bool.and_eq_true] at h
   obtain⟨⟨h1,h2⟩,h3⟩:=h
   have hr:∀ j r,a.g.rng[j]?=some (some r)→r.1≤(nthS i (.lit 0) j).den E∧(nthS i (.lit 0) j).den E≤r.2:=fun j r hj=>by
    have:=rngB_ok hG h1 j r hj
    rwa [Nat.zero_add] at this
   exact⟨a,ha,⟨hr,asmB_ok hG h2⟩,fallB_ok hG h3 hr⟩
  ·simp at h
noncomputable section
def ctlOf (us:List Cut) (e:End):List FCtl × List (Option (Code × Code)):=match e.leaf with
 | .cut j _ _ _=>match us[j]? with
  | some u=>e.cfg.ctl (u.t.loops.map e.ids.get)
  | none=>([],[])
 | _=>([],[])
def ctlOfL (us:List Cut):Leaf→List FCtl × List (Option (Code × Code))
 | .cut j _ _ _=>match us[j]? with
  | some u=>u.t.cfg.ctl (u.t.loops.map some)
  | none=>([],[])
 | _=>([],[])
def fullE (us:List Cut):List End→List ((List (SB × Bool) × Leaf) × (List FCtl × List (Option (Code × Code))))
 | []=>[]
 | e::r=>(e.data,ctlOf us e)::fullE us r
def fullD (us:List Cut):List (List (SB × Bool) × Leaf)→List ((List (SB × Bool) × Leaf) × (List FCtl × List (Option (Code × Code))))
 | []=>[]
 | x::r=>(x,ctlOfL us x.2)::fullD us r
end
theorem full_ok {us:List Cut}:∀ {l:List End}{d:List (List (SB × Bool) × Leaf)},fullE us l=fullD us d→∀ e ∈ l,e.data ∈ d∧ctlOf us e=ctlOfL us e.leaf
 | [],_,_,e,he=>by simp at he
 | x::r,[],h,_,_=>by simp [fullE,fullD] at h
 | x::r,y::d,h,e,he=>by
  simp only[fullE,fullD,List.cons.injEq,Prod.mk.injEq] at h
  obtain⟨⟨h1,h2⟩,h3⟩:=h
  rcases List.mem_cons.1 he with rfl | he
  ·refine⟨by rw[h1]; simp,?_⟩
   rw[h2,← h1]
   obtain⟨asm,leaf,ids,cfg⟩:=e
   cases leaf <;> rfl
  ·obtain⟨k1,k2⟩:=full_ok h3 e he
   exact⟨List.mem_cons_of_mem _ k1,k2⟩
def PartOK (P:Program) (l:List ACut) (m:Meas) (go:Bool) (g:Ctx) (c:Cfg):Prop :=
 ∃ n d,fullE (l.map ACut.u) (ends P (l.map ACut.u) n go g c)=fullD (l.map ACut.u) d∧partB l m g.rng d=true
inductive Covers (P:Program) (l:List ACut) (m:Meas) (go:Bool):Cfg→Ctx→Prop where
 | run {c:Cfg} {g:Ctx}:PartOK P l m go g c→Covers P l m go c g
 | fork {c:Cfg} {g:Ctx} (b:SB):Covers P l m go (c.refine { rng:=g.rng,asm:=(b,true)::g.asm }) { rng:=g.rng,asm:=(b,true)::g.asm }→Covers P l m go (c.refine { rng:=g.rng,asm:=(b,false)::g.asm }) { rng:=g.rng,asm:=(b,false)::g.asm }→Covers P l m go c g
theorem Covers.at {P:Program}{l:List ACut}{m:Meas}{go:Bool}{c:Cfg}{g:Ctx}(h:Covers P l m go c g) {E:Env}(hG:g.Ok E):∃ (g':Ctx) (c':Cfg),g'.Ok E∧(∀ (S:Start) f fs w,MRel P S E c f fs w→MRel P S E c' f fs w)∧PartOK P l m go g' c':=by
 induction h with
 | run h=>exact⟨_,_,hG,fun _ _ _ _ h=>h,h⟩
 | fork b _ _ ih1 ih2 =>
  cases hb:b.den E with
  | true=>obtain⟨g',c',h1,h2,h3⟩:=ih1 (hG.cons hb); exact⟨g',c',h1,fun S f fs w h=>h2 S f fs w (h.refine (hG.cons hb)),h3⟩
  | false=>obtain⟨g',c',h1,h2,h3⟩:=ih2 (hG.cons hb); exact⟨g',c',h1,fun S f fs w h=>h2 S f fs w (h.refine (hG.cons hb)),h3⟩
def AllParts (P:Program) (l:List ACut):List ACut→Prop
 | []=>True
 | a::r=>Covers P l a.ms true a.u.t.cfg a.g∧AllParts P l r
theorem allParts_ok {P:Program}{l:List ACut}:∀ {m:List ACut},AllParts P l m→∀ (k:Nat) (a:ACut),m[k]?=some a→Covers P l a.ms true a.u.t.cfg a.g
 | [],_,k,a,h=>by simp at h
 | x::r,h,0,a,ha=>by simp at ha; subst ha; exact h.1
 | x::r,h,k+1,a,ha=>allParts_ok h.2 k a (by simpa using ha)
def dummyFr:AFrame:={ fn:=0,tmps:=.nil,size:=0,reg:=.none,todo:=[],defers:=[],returning:=false,deferred:=false,round:=none }
def allOK (l:List ACut):Bool:=l.all fun a=>a.u.t.ok
def noΦ:Nat→(Nat→Int)→(Nat→Bool)→(Nat→Int→Int)→Prop:=fun _ _ _ _=>True
theorem PartOK.split {P:Program}{l:List ACut}{g0:Ctx}{top:Nat}{m:Meas}{go:Bool}{g:Ctx}{c:Cfg}{k:Nat}(h:PartOK P l m go g c)
  (hm:∀ i b r,(autoPlan l g0 top noΦ).μ k i b r=m.val i) :
  ∃ n,(∀ e ∈ ends P (autoPlan l g0 top noΦ).us n go g c,CtlOK (autoPlan l g0 top noΦ).us e) ∧
   ∀ e ∈ ends P (autoPlan l g0 top noΦ).us n go g c,∀ E:Env,g.Ok E→(autoPlan l g0 top noΦ).phi k E→Facts E e.asm→LeafVC (autoPlan l g0 top noΦ) k E e.leaf:=by
 obtain⟨n,d,h1,h2⟩:=h
 refine⟨n,fun e he=>?_,fun e he E hG _ hf=>?_⟩
 ·have hc:=(full_ok h1 e he).2
  have hd:=(full_ok h1 e he).1
  have hl:=partB_mem h2 _ hd
  obtain⟨asm,leaf,ids,cfg⟩:=e
  unfold CtlOK
  cases leaf with
  | dead s=>trivial
  | fin b=>trivial
  | cut j i b r =>
   simp only[ctlOf,ctlOfL] at hc
   show match (l.map ACut.u)[j]? with | some u=>_ | none=>False
   cases hu:(l.map ACut.u)[j]? with
   | some u=>rw[hu] at hc; exact hc.symm
   | none =>
    exfalso
    simp only[leafB,End.data,Leaf.bare] at hl
    rw[List.getElem?_map] at hu
    cases ha:l[j]? with
    | none=>rw[ha] at hl; simp at hl
    | some a=>rw[ha] at hu; simp at hu
 ·have hd:=(full_ok h1 e he).1
  have hl:=partB_mem h2 _ hd
  have hG':({ rng:=g.rng,asm:=e.asm }:Ctx).Ok E:=⟨hG.1,hf⟩
  have hk:=leafB_ok hG' hl
  obtain⟨asm,leaf,ids,cfg⟩:=e
  cases leaf with
  | dead s=>exact hk
  | fin b=>exact hk
  | cut j i b r =>
   obtain⟨a,ha,k1,k2⟩:=hk
   refine⟨?_,trivial,?_⟩
   ·show ((autoPlan l g0 top noΦ).G j).Ok _
    simp only[autoPlan,ha]
    exact k1
   ·unfold Plan.mu
    rw[hm]
    simp only[autoPlan,ha]
    exact k2
end Go.Ev
