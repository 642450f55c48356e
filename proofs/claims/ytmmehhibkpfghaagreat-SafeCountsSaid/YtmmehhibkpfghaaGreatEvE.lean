/- Ev, part E: how the evaluator's memory lies in the model's, and what loads, stores and new blocks do. -/
import Derived.Test.YtmmehhibkpfghaaGreatEvD
import Derived.Laws.Sem
import Derived.Laws.World
set_option linter.unusedVariables false
namespace Go.Ev
def TRel (E:Env) (tm:Tr AV) (size:Nat) (tv:Array Value):Prop :=
 tv.size=size∧∀ t,t<size→∃ v,tv[t]?=some v∧VRel E ((tm.get t).getD undefA) v
def DRel (E:Env):ADef→Deferred→Prop
 | .collected id,d=>∃ b,E.loc id=some b∧d={ target:=.collected b,args:=#[] }
 | .call f args,d=>∃ vs cs,VRelL E args (vs++cs)∧d={ target:=.fn (.func f) cs.toArray,args:=vs.toArray }
def DRelL (E:Env):List ADef→List Deferred→Prop
 | [],ds=>ds=[]
 | a::as,ds=>∃ d r,DRel E a d∧DRelL E as r∧ds=d::r
def ERelL (E:Env):List (AV × AV)→List MapEntry→Prop
 | [],es=>es=[]
 | x::xs,es=>∃ e r,VRel E x.1 e.key∧VRel E x.2 e.val∧ERelL E xs r∧es=e::r
def Row (E:Env) (a n:SI) (pat:List CK) (vs:Array Value):Prop :=
 0≤n.den E∧(n.den E).toNat*pat.length≤vs.size∧∀ j,j<(n.den E).toNat*pat.length→∃ ck,pat[j % pat.length]?=some ck∧vs[j]?=some (ck.val (a.cells E j))
def RowM (E:Env) (md:Md) (a n:SI) (pat:List CK) (vs:Array Value):Prop:=match md with
 | .ro o=>0≤o.den E∧Row E a n pat (vs.extract (o.den E).toNat vs.size)
 | _=>Row E a n pat vs
theorem RowM.row {E:Env}{md:Md}{a n:SI}{pat:List CK}{vs:Array Value}(h:RowM E md a n pat vs) (hm:md.isRo=false):Row E a n pat vs:=by
 cases md <;> first | exact h | simp [Md.isRo] at hm
def BRel (E:Env) (id:Nat):AB→Obj→Prop
 | .cells cs e,o=>∃ vs,VRelL E cs vs∧o=.cells vs.toArray e (0,0)
 | .rep n z ov e,o=>∃ vs:Array Value,o=.cells vs e (0,0)∧vs.size=n∧∀ i,i<n→∃ v,vs[i]?=some v∧VRel E ((ov.get i).getD z) v
 | .opn cs e size,o=>∃ vs rest,VRelL E cs vs∧o=.cells (vs++rest).toArray e (0,0)∧E.cap id*size≤(vs++rest).length
 | .loop st p fn tmps size params assign body ds,o=>∃ tv d,TRel E tmps size tv∧E.loc ds=some d ∧
   o=.loop { state:=st,pending:=p,fn,tmps:=tv,params,assign,body,defers:=d }
 | .deferred none,o=>o=.deferred none
 | .deferred (some l),o=>∃ ds,DRelL E l ds∧o=.deferred (some ds)
 | .chan cap buf,o=>∃ vs s r,VRelL E buf vs∧o=.chan cap vs.toArray false s r false
 | .chanB t v,o=>∃ u s r,(t.den E=true→VRel E v u)∧o=.chan 1 (if t.den E=true then #[u] else #[]) false s r false
 | .map es,o=>∃ l clock,ERelL E es l∧o=.map l.toArray clock
 | .row md a n pat e,o=>∃ vs fz e2,o=.cells vs e2 fz∧(md.isRo=false→fz=(0,0)∧e2=e)∧RowM E md a n pat vs ∧
   (md=.own→vs.size=(n.den E).toNat*pat.length)∧(md=.opn→E.cap id*pat.length≤vs.size)
 | .ros p n cs _,o=>∃ vs fz e2,o=.cells vs e2 fz∧0≤p.den E∧∀ (i:Nat) x,cs[i]?=some x→(i:Int)<n.den E→∃ v,vs[(p.den E).toNat+i]?=some v∧VRel E x v
def AHeap.has (E:Env) (H:AHeap) (id:Nat) (b:AB):Prop:=H.get id=some b∨∃ g ∈ H.gs,g.1.den E=true∧(id,b) ∈ g.2
def gidsL (gs:List (SB × List (Nat × AB))):List Nat:=gs.flatMap fun g=>g.2.map (·.1)
structure Sep (H:AHeap):Prop where
 nodup:(gidsL H.gs).Nodup
 lt:∀ id ∈ gidsL H.gs,id<H.next
 none:∀ id ∈ gidsL H.gs,H.get id=none
theorem mem_gids {gs:List (SB × List (Nat × AB))}{g:SB × List (Nat × AB)}{id:Nat}{c:AB}(hg:g ∈ gs) (hm:(id,c) ∈ g.2):id ∈ gidsL gs:=by
 unfold gidsL
 exact List.mem_flatMap.2 ⟨g,hg,List.mem_map.2 ⟨(id,c),hm,rfl⟩⟩
structure HRel (E:Env) (H:AHeap) (w:World):Prop where
 blkE:∀ id b,H.has E id b→∃ a o,E.loc id=some a∧w.heap[a]?=some o∧BRel E id b o
 injE:∀ i j bi bj a,H.has E i bi→H.has E j bj→(bi.rw=true∨bj.rw=true)→E.loc i=some a→E.loc j=some a→i=j
 sepS:Sep H
 lt:∀ id a,E.loc id=some a→a<w.heap.size
 fresh:∀ id,H.next≤id→E.loc id=none
def Live (E:Env) (H:AHeap) (a:Nat):Prop:=∃ id b,H.has E id b∧b.rw=true∧E.loc id=some a
theorem HRel.sep {E:Env}{H:AHeap}{w:World}(h:HRel E H w) (id:Nat) (b:AB) (hb:H.get id=some b) (g:SB × List (Nat × AB)) (hg:g ∈ H.gs) (_:g.1.den E=true) (c:AB):(id,c) ∉ g.2:=fun hm=>by
 rw[h.sepS.none id (mem_gids hg hm)] at hb; simp at hb
theorem HRel.blk {E:Env}{H:AHeap}{w:World}(h:HRel E H w) (id:Nat) (b:AB) (hb:H.get id=some b):∃ a o,E.loc id=some a∧w.heap[a]?=some o∧BRel E id b o :=
 h.blkE id b (.inl hb)
theorem HRel.inj {E:Env}{H:AHeap}{w:World}(h:HRel E H w) (i j:Nat) (bi bj:AB) (a:Nat) (hi:H.get i=some bi) (hj:H.get j=some bj) (hr:bi.rw=true∨bj.rw=true)
  (h1:E.loc i=some a) (h2:E.loc j=some a):i=j:=h.injE i j bi bj a (.inl hi) (.inl hj) hr h1 h2
structure Kept (E:Env) (H:AHeap) (w w':World):Prop where
 os:w'.os=w.os
 tape:w'.tape=w.tape
 output:w'.output=w.output
 size:w.heap.size≤w'.heap.size
 block:∀ b,b<w.heap.size→¬ Live E H b→w'.heap[b]?=w.heap[b]?
theorem TRel.le {E E':Env}(h:E.le E') {tm:Tr AV}{n:Nat}{tv:Array Value}(ht:TRel E tm n tv):TRel E' tm n tv :=
 ⟨ht.1,fun t hl=>let ⟨v,hv,hr⟩:=ht.2 t hl; ⟨v,hv,hr.le h⟩⟩
theorem DRel.le {E E':Env}(h:E.le E') {a:ADef}{d:Deferred}(hd:DRel E a d):DRel E' a d:=by
 cases a with
 | collected id=>obtain⟨b,hb,rfl⟩:=hd; exact⟨b,h.loc _ _ hb,rfl⟩
 | call f args=>obtain⟨vs,cs,hv,rfl⟩:=hd; exact⟨vs,cs,hv.le h,rfl⟩
theorem DRelL.le {E E':Env}(h:E.le E'):∀ {a:List ADef}{d:List Deferred},DRelL E a d→DRelL E' a d
 | [],d,hd=>hd
 | a::as,d,hd=>by
  obtain⟨x,r,hx,hr,rfl⟩:=hd
  exact⟨x,r,hx.le h,DRelL.le h hr,rfl⟩
theorem DRelL.append {E:Env}:∀ {a b:List ADef}{d e:List Deferred},DRelL E a d→DRelL E b e→DRelL E (a++b) (d++e)
 | [],b,d,e,h,k=>by simp only[DRelL] at h; subst h; exact k
 | x::xs,b,d,e,h,k=>by
  obtain⟨y,ys,hy,hys,rfl⟩:=h
  exact⟨y,ys++e,hy,DRelL.append hys k,rfl⟩
theorem ERelL.le {E E':Env}(h:E.le E'):∀ {a:List (AV × AV)}{l:List MapEntry},ERelL E a l→ERelL E' a l
 | [],l,hl=>hl
 | x::xs,l,hl=>by
  obtain⟨e,r,h1,h2,h3,rfl⟩:=hl
  exact⟨e,r,h1.le h,h2.le h,ERelL.le h h3,rfl⟩
theorem Row.le {E E':Env}(h:E.le E') {a n:SI}{pat:List CK}{vs:Array Value}(hr:Row E a n pat vs):Row E' a n pat vs:=by
 unfold Row at *
 rw[SI.den_le h]
 simp only[SI.cells_le h]
 exact hr
theorem RowM.le {E E':Env}(h:E.le E') {md:Md}{a n:SI}{pat:List CK}{vs:Array Value}(hr:RowM E md a n pat vs):RowM E' md a n pat vs:=by
 cases md with
 | ro o=>exact⟨by rw[SI.den_le h]; exact hr.1,by rw[SI.den_le h]; exact hr.2.le h⟩
 | own=>exact Row.le h hr
 | opn=>exact Row.le h hr
theorem BRel.le {E E':Env}(h:E.le E') {id:Nat}{b:AB}{o:Obj}(hid:E.cap id=E'.cap id) (hb:BRel E id b o):BRel E' id b o:=by
 cases b with
 | cells cs e=>obtain⟨vs,hv,rfl⟩:=hb; exact⟨vs,hv.le h,rfl⟩
 | rep n z ov e =>
  obtain⟨vs,rfl,hs,hc⟩:=hb
  exact⟨vs,rfl,hs,fun i hi=>let ⟨v,hv,hr⟩:=hc i hi; ⟨v,hv,hr.le h⟩⟩
 | opn cs e size=>obtain⟨vs,rest,hv,rfl,hc⟩:=hb; exact⟨vs,rest,hv.le h,rfl,by rw[← hid]; exact hc⟩
 | loop st p fn tmps size params assign body ds=>obtain⟨tv,d,ht,hd,rfl⟩:=hb; exact⟨tv,d,ht.le h,h.loc _ _ hd,rfl⟩
 | deferred c=>cases c with
  | none=>exact hb
  | some l=>obtain⟨ds,hd,rfl⟩:=hb; exact⟨ds,hd.le h,rfl⟩
 | chan cap buf=>obtain⟨vs,s,r,hv,rfl⟩:=hb; exact⟨vs,s,r,hv.le h,rfl⟩
 | chanB t v=>obtain⟨u,s,r,hv,rfl⟩:=hb; exact⟨u,s,r,fun k=>(hv (by rw[← SB.den_le h]; exact k)).le h,by rw[SB.den_le h]⟩
 | map es=>obtain⟨l,c,hl,rfl⟩:=hb; exact⟨l,c,hl.le h,rfl⟩
 | row md a n pat e =>
  obtain⟨vs,fz,e2,rfl,h1,h2,h3,h4⟩:=hb
  exact⟨vs,fz,e2,rfl,h1,h2.le h,by rw[SI.den_le h]; exact h3,by rw[← hid]; exact h4⟩
 | ros p n cs e =>
  obtain⟨vs,fz,e2,rfl,h1,h2⟩:=hb
  refine⟨vs,fz,e2,rfl,by rw[SI.den_le h]; exact h1,fun i x hx hi=>?_⟩
  rw[SI.den_le h] at hi
  obtain⟨v,k1,k2⟩:=h2 i x hx hi
  exact⟨v,by rw[SI.den_le h]; exact k1,k2.le h⟩
theorem Kept.refl (E:Env) (H:AHeap) (w:World):Kept E H w w:=⟨rfl,rfl,rfl,Nat.le_refl _,fun _ _ _=>rfl⟩
theorem add_none (a b n:Nat):(⟨a,b,none⟩:Addr).add n=⟨a,b+n,none⟩:=by
 unfold Addr.add; split
 ·rename_i h; subst h; rfl
 ·rfl
theorem AB.cell_obj {E:Env}{id:Nat}{b:AB}{o:Obj}{i:Nat}{x:AV}(hb:BRel E id b o) (h:b.cell i=some x) :
  ∃ v,VRel E x v∧∀ (w:World) (a:Nat),w.heap[a]?=some o→w.cell? ⟨a,i,none⟩=some v∧w.frozen? ⟨a,i,none⟩=false:=by
 cases b with
 | cells cs e =>
  obtain⟨vs,hv,rfl⟩:=hb
  obtain⟨v,hv1,hv2⟩:=hv.get ((nthA_eq cs i).symm.trans h)
  exact⟨v,hv2,fun w a ho=>⟨by simp [World.cell?,ho,hv1],by simp [World.frozen?,ho]⟩⟩
 | rep n z ov e =>
  obtain⟨vs,rfl,hs,hc⟩:=hb
  simp only[AB.cell] at h
  split at h
  ·rename_i hi
   obtain⟨v,hv1,hv2⟩:=hc i hi
   simp at h; subst h
   exact⟨v,hv2,fun w a ho=>⟨by simp [World.cell?,ho,hv1],by simp [World.frozen?,ho]⟩⟩
  ·simp at h
 | opn cs e size =>
  obtain⟨vs,rest,hv,rfl,hc⟩:=hb
  obtain⟨v,hv1,hv2⟩:=hv.get ((nthA_eq cs i).symm.trans h)
  have hlt:i<vs.length:=(List.getElem?_eq_some_iff.1 hv1).1
  refine⟨v,hv2,fun w a ho=>⟨?_,by simp [World.frozen?,ho]⟩⟩
  simp [World.cell?,ho]
  rw[List.getElem?_append_left hlt]; exact hv1
 | _=>simp [AB.cell] at h
theorem AB.cell_ok {E:Env}{id:Nat}{b:AB}{o:Obj}{w:World}{a i:Nat}{x:AV}(hb:BRel E id b o) (ho:w.heap[a]?=some o) (h:b.cell i=some x) :
  ∃ v,w.cell? ⟨a,i,none⟩=some v∧VRel E x v∧w.frozen? ⟨a,i,none⟩=false :=
 let ⟨v,hr,hw⟩:=AB.cell_obj hb h; ⟨v,(hw w a ho).1,hr,(hw w a ho).2⟩
theorem AB.setCell_ok {E:Env}{id:Nat}{b b':AB}{o:Obj}{w:World}{a i:Nat}{x:AV}{v:Value}(hb:BRel E id b o) (ho:w.heap[a]?=some o)
  (h:b.setCell i x=some b') (hx:VRel E x v) :
  (∃ u,w.cell? ⟨a,i,none⟩=some u)∧w.frozen? ⟨a,i,none⟩=false∧∃ o',(w.setCell ⟨a,i,none⟩ v).heap[a]?=some o'∧BRel E id b' o':=by
 cases b with
 | cells cs e =>
  obtain⟨vs,hv,rfl⟩:=hb
  simp only[AB.setCell] at h
  split at h
  ·rename_i hi
   simp at h; subst h
   have hlt:i<vs.length:=by rw[hv.length]; exact hi
   refine⟨⟨vs[i],by simp [World.cell?,ho,hlt]⟩,by simp [World.frozen?,ho],.cells (vs.set i v).toArray e (0,0),?_,?_⟩
   ·simp [World.setCell,Array.getElem?_modify,ho]
   ·exact⟨_,hv.set i hx,rfl⟩
  ·simp at h
 | rep n z ov e =>
  obtain⟨vs,rfl,hs,hc⟩:=hb
  simp only[AB.setCell] at h
  split at h
  ·rename_i hi
   simp at h; subst h
   refine⟨⟨vs[i]'(by omega),by simp [World.cell?,ho]⟩,by simp [World.frozen?,ho],.cells (vs.setIfInBounds i v) e (0,0),?_,?_⟩
   ·simp [World.setCell,Array.getElem?_modify,ho]
   ·refine⟨_,rfl,by simp [hs],fun j hj=>?_⟩
    rw[Tr.get_set]
    by_cases e:j=i
    ·subst e
     exact⟨v,by rw[Array.getElem?_setIfInBounds_self]; simp [hs,hj],by simpa using hx⟩
    ·obtain⟨u,hu,hr⟩:=hc j hj
     exact⟨u,by rw[Array.getElem?_setIfInBounds_ne (fun h=>e h.symm)]; exact hu,by rw[if_neg e]; exact hr⟩
  ·simp at h
 | opn cs e size =>
  obtain⟨vs,rest,hv,rfl,hc⟩:=hb
  simp only[AB.setCell] at h
  split at h
  ·rename_i hi
   simp at h; subst h
   have hlt:i<vs.length:=by rw[hv.length]; exact hi
   refine⟨⟨vs[i],?_⟩,by simp [World.frozen?,ho],.cells (vs.set i v++rest).toArray e (0,0),?_,?_⟩
   ·simp [World.cell?,ho,List.getElem?_append_left hlt]
   ·simp [World.setCell,Array.getElem?_modify,ho,List.set_append_left _ _ hlt]
   ·exact⟨_,rest,hv.set i hx,rfl,by simpa using hc⟩
  ·simp at h
 | _=>simp [AB.setCell] at h
theorem AV.one_ok {E:Env}{x:AV}{v:Value}(h:x.one=true) (hv:VRel E x v):v.oneCell'=true:=by
 induction x using AV.rec (motive_2:=fun _=>True) with
 | nil=>trivial
 | cons _ _ _ _=>trivial
 | any=>simp [AV.one] at h
 | ite s x y ihx ihy =>
  simp only[AV.one,Bool.and_eq_true] at h
  simp only[VRel] at hv
  cases hs:s.den E with
  | true=>exact ihx h.1 (hv.1 hs)
  | false=>exact ihy h.2 (hv.2 hs)
 | oslice _ _ _=>simp only[VRel] at hv; obtain⟨_,_,_,_,rfl⟩:=hv; rfl
 | agg _ _=>simp [AV.one] at h
 | tuple _ _=>simp [AV.one] at h
 | raw _=>simp [AV.one] at h
 | ptr _ _=>simp only[VRel] at hv; obtain⟨_,_,_,rfl⟩:=hv; rfl
 | slice _ _ _ _=>simp only[VRel] at hv; obtain⟨_,_,_,rfl⟩:=hv; rfl
 | slack _ _ _ _=>simp only[VRel] at hv; obtain⟨_,_,_,rfl⟩:=hv; rfl
 | empty _=>simp only[VRel] at hv; obtain⟨_,_,_,rfl⟩:=hv; rfl
 | map _=>simp only[VRel] at hv; obtain⟨_,_,rfl⟩:=hv; rfl
 | chan _=>simp only[VRel] at hv; obtain⟨_,_,rfl⟩:=hv; rfl
 | func _ _ _ _ _=>simp only[VRel] at hv; obtain⟨_,_,_,_,_,rfl⟩:=hv; rfl
 | yieldF _=>simp only[VRel] at hv; obtain⟨_,_,rfl⟩:=hv; rfl
 | iface _ _ _=>simp only[VRel] at hv; obtain⟨_,_,rfl⟩:=hv; rfl
 | bool _=>simp only[VRel] at hv; subst hv; rfl
 | int _ _=>simp only[VRel] at hv; subst hv; rfl
 | str _=>simp only[VRel] at hv; subst hv; rfl
 | nilPtr=>simp only[VRel] at hv; subst hv; rfl
 | nilSlice=>simp only[VRel] at hv; subst hv; rfl
 | nilMap=>simp only[VRel] at hv; subst hv; rfl
 | nilChan=>simp only[VRel] at hv; subst hv; rfl
 | nilFunc=>simp only[VRel] at hv; subst hv; rfl
 | nilIface=>simp only[VRel] at hv; subst hv; rfl
theorem run_store_ok {P:Program}{w:World}{a:Addr}{v u:Value}{m:Mode}(hv:v.oneCell'=true) (hc:w.cell? a=some u) (hf:w.frozen? a=false) :
  (store a v m).run P w=.ok () (w.setCell a v):=by
 rw[run_store _ _ _ _ _ hv,hc]; simp [hf]
theorem HRel.get_some {E:Env}{H:AHeap}{w:World}(h:HRel E H w) {id:Nat}{b:AB}(hb:H.get id=some b) :
  ∃ a o,E.loc id=some a∧w.heap[a]?=some o∧BRel E id b o:=h.blk id b hb
theorem get_upd (H:AHeap) (id:Nat) (b:AB) (j:Nat):(H.upd id b).get j=if j=id then some b else H.get j:=Tr.get_set _ _ _ _
theorem get_new (H:AHeap) (b:AB) (j:Nat):(H.new b).get j=if j=H.next then some b else H.get j:=Tr.get_set _ _ _ _
theorem has_upd {E:Env}{H:AHeap}{w:World}(h:HRel E H w) {id:Nat}{b b':AB}(hb:H.get id=some b) {j:Nat}{c:AB}(hj:(H.upd id b').has E j c) :
  (j=id∧c=b')∨(j≠id∧H.has E j c):=by
 rcases hj with hj | ⟨g,hg,hs,hm⟩
 ·rw[get_upd] at hj
  split at hj
  ·rename_i e; simp at hj; exact .inl ⟨e,hj.symm⟩
  ·rename_i e; exact .inr ⟨e,.inl hj⟩
 ·by_cases e:j=id
  ·subst e; exact absurd hm (h.sep j b hb g hg hs c)
  ·exact .inr ⟨e,.inr ⟨g,hg,hs,hm⟩⟩
theorem Sep.upd {H:AHeap}(h:Sep H) {id:Nat}{b b':AB}(hb:H.get id=some b):Sep (H.upd id b') :=
 ⟨h.nodup,h.lt,fun j hj=>by
  have hj':=h.none j hj
  rw[get_upd,if_neg (fun e=>by rw[e,hb] at hj'; simp at hj')]; exact hj'⟩
theorem Sep.new {H:AHeap}(h:Sep H) (b:AB):Sep (H.new b) :=
 ⟨h.nodup,fun j hj=>Nat.lt_succ_of_lt (h.lt j hj),fun j hj=>by
  have:=h.lt j hj
  rw[get_new,if_neg (by omega)]; exact h.none j hj⟩
theorem HRel.upd {E:Env}{H:AHeap}{w w':World}(h:HRel E H w) {id a:Nat}{b b':AB}(hb:H.get id=some b) (hw:b.rw=true) (ha:E.loc id=some a)
  (hs:w'.heap.size=w.heap.size) (ho:∃ o',w'.heap[a]?=some o'∧BRel E id b' o') (hk:∀ k,k≠a→w'.heap[k]?=w.heap[k]?):HRel E (H.upd id b') w' where
 blkE:=fun j c hj=>by
  rcases has_upd h hb hj with ⟨rfl,rfl⟩ | ⟨e,hj⟩
  ·obtain⟨o',ho1,ho2⟩:=ho
   exact⟨a,o',ha,ho1,ho2⟩
  ·obtain⟨a',o,h1,h2,h3⟩:=h.blkE j c hj
   exact⟨a',o,h1,by rw[hk a' (fun e'=>e (h.injE j id c b a hj (.inl hb) (.inr hw) (e' ▸ h1) ha))]; exact h2,h3⟩
 injE:=fun i j bi bj a' hi hj hr h1 h2=>by
  rcases has_upd h hb hi with ⟨ei,ri⟩ | ⟨ei,gi⟩ <;> rcases has_upd h hb hj with ⟨ej,rj⟩ | ⟨ej,gj⟩
  ·rw[ei,ej]
  ·subst ei; exact h.injE i j b bj a' (.inl hb) gj (.inl hw) h1 h2
  ·subst ej; exact h.injE i j bi b a' gi (.inl hb) (.inr hw) h1 h2
  ·exact h.injE i j bi bj a' gi gj hr h1 h2
 sepS:=h.sepS.upd hb
 lt:=fun j a' hj=>by rw[hs]; exact h.lt j a' hj
 fresh:=fun j hj=>h.fresh j hj
theorem Live.upd {E:Env}{H:AHeap}{w:World}(h:HRel E H w) {id:Nat}{b b':AB}(hb:H.get id=some b) (hw:b.rw=true) {a:Nat}(hl:Live E (H.upd id b') a):Live E H a:=by
 obtain⟨j,c,hj,hc,ha⟩:=hl
 rcases has_upd h hb hj with ⟨rfl,rfl⟩ | ⟨_,hj⟩
 ·exact⟨j,b,.inl hb,hw,ha⟩
 ·exact⟨j,c,hj,hc,ha⟩
def Env.ext (E:Env) (id a:Nat) (cap:Nat):Env :=
 {E with loc:=fun j=>if j=id then some a else E.loc j,cap:=fun j=>if j=id then cap else E.cap j }
theorem Env.le_ext {E:Env}{id a cap:Nat}(h:E.loc id=none):E.le (E.ext id a cap) where
 loc:=fun j b hj=>by
  simp only[Env.ext]; split
  ·rename_i e; subst e; rw[h] at hj; simp at hj
  ·exact hj
 cap:=fun j b hj=>by
  simp only[Env.ext]; split
  ·rename_i e; subst e; rw[h] at hj; simp at hj
  ·rfl
 int:=rfl
 bool:=rfl
 row:=rfl
 val:=rfl
theorem has_le {E E':Env}(h:E.le E') {H:AHeap}{id:Nat}{b:AB}:H.has E' id b↔H.has E id b:=by
 unfold AHeap.has
 simp only[SB.den_le h]
theorem HRel.has_loc {E:Env}{H:AHeap}{w:World}(h:HRel E H w) {j:Nat}{c:AB}(hj:H.has E j c):j≠H.next:=fun e=>by
 obtain⟨a,_,ha,_⟩:=h.blkE j c hj
 rw[h.fresh j (by omega)] at ha; simp at ha
theorem has_new {E E':Env}(hle:E.le E') {H:AHeap}{b:AB}{j:Nat}{c:AB}(hj:(H.new b).has E' j c):(j=H.next∧c=b)∨H.has E j c:=by
 rcases hj with hj | ⟨g,hg,hs,hm⟩
 ·rw[get_new] at hj
  split at hj
  ·rename_i e; simp at hj; exact .inl ⟨e,hj.symm⟩
  ·exact .inr (.inl hj)
 ·exact .inr (.inr ⟨g,hg,by rw[SB.den_le hle] at hs; exact hs,hm⟩)
theorem HRel.new {E:Env}{H:AHeap}{w:World}(h:HRel E H w) {b:AB}{o:Obj}(cap:Nat) (hb:BRel (E.ext H.next w.heap.size cap) H.next b o) :
  HRel (E.ext H.next w.heap.size cap) (H.new b) { w with heap:=w.heap.push o }:=by
 have hle:E.le (E.ext H.next w.heap.size cap):=Env.le_ext (h.fresh _ (Nat.le_refl _))
 have hloc:∀ j,(E.ext H.next w.heap.size cap).loc j=if j=H.next then some w.heap.size else E.loc j:=fun _=>rfl
 refine⟨fun j c hj=>?_,fun i j bi bj a hi hj hr h1 h2=>?_,h.sepS.new b,fun j a hj=>?_,fun j hj=>?_⟩
 ·rcases has_new hle hj with ⟨rfl,rfl⟩ | hj'
  ·exact⟨w.heap.size,o,by simp [hloc],by simp,hb⟩
  ·obtain⟨a,o',h1,h2,h3⟩:=h.blkE j c hj'
   have hlt:=h.lt j a h1
   refine⟨a,o',hle.loc _ _ h1,?_,h3.le hle (hle.cap _ _ h1).symm⟩
   rw[Array.getElem?_push,if_neg (by omega)]; exact h2
 ·rw[hloc] at h1 h2
  rcases has_new hle hi with ⟨ei,ri⟩ | gi <;> rcases has_new hle hj with ⟨ej,rj⟩ | gj
  ·omega
  ·rw[if_pos ei] at h1; rw[if_neg (h.has_loc gj)] at h2
   simp at h1; subst h1
   exact absurd (h.lt j _ h2) (by omega)
  ·rw[if_neg (h.has_loc gi)] at h1; rw[if_pos ej] at h2
   simp at h2; subst h2
   exact absurd (h.lt i _ h1) (by omega)
  ·rw[if_neg (h.has_loc gi)] at h1; rw[if_neg (h.has_loc gj)] at h2
   exact h.injE i j bi bj a gi gj hr h1 h2
 ·rw[hloc] at hj
  simp only[Array.size_push]
  split at hj
  ·simp at hj; omega
  ·have:=h.lt j a hj; omega
 ·rw[hloc,if_neg (by simp only[AHeap.new] at hj; omega)]
  exact h.fresh j (by simp only[AHeap.new] at hj; omega)
theorem Kept.push (E:Env) (H:AHeap) (w:World) (o:Obj):Kept E H w { w with heap:=w.heap.push o } :=
 ⟨rfl,rfl,rfl,by simp,fun b hb _=>by simp only; rw[Array.getElem?_push,if_neg (by omega)]⟩
theorem Kept.setCell {E:Env}{H:AHeap}(w:World) {a i:Nat}(v:Value) (hl:Live E H a):Kept E H w (w.setCell ⟨a,i,none⟩ v) :=
 ⟨rfl,rfl,rfl,by simp [World.setCell],fun b hb hn=>by
  simp only[World.setCell,Array.getElem?_modify]
  rw[if_neg (fun e=>hn (by rw[← e]; exact hl))]⟩
theorem Kept.trans {E:Env}{H:AHeap}{a b c:World}(h:Kept E H a b) (k:Kept E H b c):Kept E H a c :=
 ⟨k.os.trans h.os,k.tape.trans h.tape,k.output.trans h.output,Nat.le_trans h.size k.size,
  fun i hi hn=>(k.block i (Nat.lt_of_lt_of_le hi h.size) hn).trans (h.block i hi hn)⟩
theorem Live.new {E:Env}{H:AHeap}{w:World}(h:HRel E H w) {b:AB}{cap a:Nat}(hl:Live (E.ext H.next w.heap.size cap) (H.new b) a):Live E H a∨w.heap.size≤a:=by
 obtain⟨j,c,hj,hc,ha⟩:=hl
 simp only[Env.ext] at ha
 rcases has_new (Env.le_ext (h.fresh _ (Nat.le_refl _))) hj with ⟨e,_⟩ | hj
 ·rw[if_pos e] at ha; simp at ha; exact .inr (by omega)
 ·rw[if_neg (h.has_loc hj)] at ha; exact .inl ⟨j,c,hj,hc,ha⟩
theorem HRel.sub {E:Env}{H1 H2:AHeap}{w:World}(hs:∀ j b,H2.has E j b→H1.has E j b) (hp:Sep H2) (hn:H2.next=H1.next) (h:HRel E H1 w):HRel E H2 w :=
 ⟨fun j b hj=>h.blkE j b (hs j b hj),fun i j bi bj a hi hj=>h.injE i j bi bj a (hs i bi hi) (hs j bj hj),hp,h.lt,fun j hj=>h.fresh j (by rw[← hn]; exact hj)⟩
theorem Live.sub {E:Env}{H1 H2:AHeap}(hs:∀ j b,H2.has E j b→H1.has E j b) {a:Nat}(h:Live E H2 a):Live E H1 a :=
 let ⟨j,b,hj,hc,ha⟩:=h; ⟨j,b,hs j b hj,hc,ha⟩
theorem lay_get:∀ (l:List (Nat × AB)) (m:Tr AB) (id:Nat) (b:AB),(AHeap.lay m l).get id=some b→m.get id=some b∨(id,b) ∈ l
 | [],m,id,b,h=>.inl h
 | (i,c)::r,m,id,b,h=>by
  rcases lay_get r (m.set i c) id b h with h1 | h1
  ·rw[Tr.get_set] at h1
   split at h1
   ·rename_i e; simp at h1; subst e; subst h1; exact .inr (by simp)
   ·exact .inl h1
  ·exact .inr (List.mem_cons_of_mem _ h1)
theorem lay_other:∀ (l:List (Nat × AB)) (m:Tr AB) (id:Nat),id ∉ l.map (·.1)→(AHeap.lay m l).get id=m.get id
 | [],m,id,_=>rfl
 | (i,c)::r,m,id,h=>by
  simp only[List.map_cons,List.mem_cons,not_or] at h
  have:=lay_other r (m.set i c) id h.2
  rw[Tr.get_set,if_neg h.1] at this
  exact this
theorem laid_has {G:Ctx}{E:Env}(hG:G.Ok E) {next:Nat}:∀ (gs acc:List (SB × List (Nat × AB))) (m:Tr AB) (id:Nat) (b:AB),(AHeap.laid G m next gs acc).has E id b→({ m,next,gs:=gs++acc }:AHeap).has E id b
 | [],acc,m,id,b,h=>h
 | (s,l)::r,acc,m,id,b,h=>by
  unfold AHeap.laid at h
  split at h
  ·rename_i hk
   rcases laid_has hG r acc _ id b h with h | ⟨g,hg,h1,h2⟩
   ·rcases lay_get l m id b h with h | h
    ·exact .inl h
    ·exact .inr ⟨(s,l),by simp,SB.knowG_ok hG hk,h⟩
   ·exact .inr ⟨g,by simp at hg ⊢; exact .inr hg,h1,h2⟩
  ·rcases laid_has hG r acc _ id b h with h | ⟨g,hg,h1,h2⟩
   ·exact .inl h
   ·exact .inr ⟨g,by simp at hg ⊢; exact .inr hg,h1,h2⟩
  ·rcases laid_has hG r ((s,l)::acc) _ id b h with h | ⟨g,hg,h1,h2⟩
   ·exact .inl h
   ·refine .inr ⟨g,?_,h1,h2⟩
    simp at hg ⊢
    rcases hg with h | h | h
    ·exact .inr (.inl h)
    ·exact .inl h
    ·exact .inr (.inr h)
theorem laid_next {G:Ctx}{next:Nat}:∀ (gs acc:List (SB × List (Nat × AB))) (m:Tr AB),(AHeap.laid G m next gs acc).next=next
 | [],acc,m=>rfl
 | (s,l)::r,acc,m=>by
  unfold AHeap.laid
  split <;> exact laid_next r _ _
theorem gids_cons (s:SB) (l:List (Nat × AB)) (r:List (SB × List (Nat × AB))):gidsL ((s,l)::r)=l.map (·.1)++gidsL r:=rfl
theorem gids_append (a b:List (SB × List (Nat × AB))):gidsL (a++b)=gidsL a++gidsL b:=by simp [gidsL]
theorem laid_sep {G:Ctx}{next:Nat}:∀ (gs acc:List (SB × List (Nat × AB))) (m:Tr AB),Sep { m,next,gs:=gs++acc }→Sep (AHeap.laid G m next gs acc)
 | [],acc,m,h=>h
 | (s,l)::r,acc,m,h=>by
  have hnd:=h.nodup
  simp only[List.cons_append,gids_cons] at hnd
  have hl:=h.lt
  have hn:=h.none
  simp only[List.cons_append,gids_cons] at hl hn
  unfold AHeap.laid
  split
  ·refine laid_sep r acc _ ⟨(List.nodup_append.1 hnd).2.1,fun id hid=>hl id (List.mem_append.2 (.inr hid)),fun id hid=>?_⟩
   have hni:id ∉ l.map (·.1):=fun hx=>(List.nodup_append.1 hnd).2.2 id hx id hid rfl
   show (AHeap.lay m l).get id=none
   rw[lay_other l m id hni]
   exact hn id (List.mem_append.2 (.inr hid))
  ·exact laid_sep r acc _ ⟨(List.nodup_append.1 hnd).2.1,fun id hid=>hl id (List.mem_append.2 (.inr hid)),fun id hid=>hn id (List.mem_append.2 (.inr hid))⟩
  ·have hp:(gidsL (r++(s,l)::acc)).Perm (l.map (·.1)++gidsL (r++acc)):=by
    rw[gids_append,gids_append,gids_cons,← List.append_assoc,← List.append_assoc]
    exact List.Perm.append_right _ List.perm_append_comm
   exact laid_sep r ((s,l)::acc) _ ⟨hp.nodup_iff.2 hnd,fun id hid=>hl id (hp.mem_iff.1 hid),fun id hid=>hn id (hp.mem_iff.1 hid)⟩
theorem HRel.refine {G:Ctx}{E:Env}{H:AHeap}{w:World}(hG:G.Ok E) (h:HRel E H w):HRel E (H.refine G) w∧∀ a,Live E (H.refine G) a→Live E H a:=by
 unfold AHeap.refine
 split
 ·exact⟨h,fun _ x=>x⟩
 ·rename_i g r hgs
  have hs:∀ j b,(AHeap.laid G H.m H.next (g::r) []).has E j b→H.has E j b:=fun j b hj=>by
   have:=laid_has hG (g::r) [] H.m j b hj
   rw[List.append_nil,← hgs] at this
   exact this
  have hS:Sep (AHeap.laid G H.m H.next (g::r) []):=laid_sep _ _ _ (by rw[List.append_nil,← hgs]; exact h.sepS)
  exact⟨HRel.sub hs hS (laid_next _ _ _) h,fun a ha=>Live.sub hs ha⟩
noncomputable def AHeap.moved (H:AHeap) (id:Nat) (b:AB):AHeap:={ m:=(H.m.put id none).set H.next b,next:=H.next+1,gs:=H.gs }
theorem get_moved (H:AHeap) (id:Nat) (b:AB) (j:Nat):(H.moved id b).get j=if j=H.next then some b else if j=id then none else H.get j:=by
 show ((H.m.put id none).set H.next b).get j=_
 rw[Tr.get_set,Tr.get_put]; rfl
theorem has_moved {E E':Env}{w:World}(hle:E.le E') {H:AHeap}(h:HRel E H w) {id:Nat}{b0:AB}(hb0:H.get id=some b0) {b:AB}{j:Nat}{c:AB}(hj:(H.moved id b).has E' j c) :
  (j=H.next∧c=b)∨(j≠id∧H.has E j c):=by
 rcases hj with hj | ⟨g,hg,hs,hm⟩
 ·rw[get_moved] at hj
  split at hj
  ·rename_i e; simp at hj; exact .inl ⟨e,hj.symm⟩
  ·split at hj
   ·simp at hj
   ·rename_i e; exact .inr ⟨e,.inl hj⟩
 ·rw[SB.den_le hle] at hs
  exact .inr ⟨fun e=>by subst e; exact h.sep j b0 hb0 g hg hs c hm,.inr ⟨g,hg,hs,hm⟩⟩
theorem Sep.moved {H:AHeap}(h:Sep H) (id:Nat) (b:AB):Sep (H.moved id b) :=
 ⟨h.nodup,fun j hj=>Nat.lt_succ_of_lt (h.lt j hj),fun j hj=>by
  have:=h.lt j hj
  rw[get_moved,if_neg (by omega)]
  split
  ·rfl
  ·exact h.none j hj⟩
theorem HRel.moved {E:Env}{H:AHeap}{w w':World}(h:HRel E H w) {id a cap:Nat}{b0 b:AB}{o:Obj}(hb0:H.get id=some b0) (hw:b0.rw=true) (ha:E.loc id=some a)
  (hs:w'.heap.size=w.heap.size) (ho:w'.heap[a]?=some o) (hk:∀ k,k≠a→w'.heap[k]?=w.heap[k]?) (hb:BRel (E.ext H.next a cap) H.next b o) :
  HRel (E.ext H.next a cap) (H.moved id b) w'∧∀ k,Live (E.ext H.next a cap) (H.moved id b) k→Live E H k:=by
 have hle:E.le (E.ext H.next a cap):=Env.le_ext (h.fresh _ (Nat.le_refl _))
 have hloc:∀ j,(E.ext H.next a cap).loc j=if j=H.next then some a else E.loc j:=fun _=>rfl
 refine⟨⟨fun j c hj=>?_,fun i j bi bj a' hi hj hr h1 h2=>?_,h.sepS.moved id b,fun j a' hj=>?_,fun j hj=>?_⟩,?_⟩
 ·rcases has_moved hle h hb0 hj with ⟨rfl,rfl⟩ | ⟨e,hj'⟩
  ·exact⟨a,o,by simp [hloc],ho,hb⟩
  ·obtain⟨a',o',h1,h2,h3⟩:=h.blkE j c hj'
   refine⟨a',o',hle.loc _ _ h1,?_,h3.le hle (hle.cap _ _ h1).symm⟩
   rw[hk a' (fun e'=>e (h.injE j id c b0 a hj' (.inl hb0) (.inr hw) (e' ▸ h1) ha))]; exact h2
 ·rw[hloc] at h1 h2
  rcases has_moved hle h hb0 hi with ⟨ei,ri⟩ | ⟨ei,gi⟩ <;> rcases has_moved hle h hb0 hj with ⟨ej,rj⟩ | ⟨ej,gj⟩
  ·omega
  ·rw[if_pos ei] at h1; rw[if_neg (h.has_loc gj)] at h2
   simp at h1; subst h1
   exact absurd (h.injE j id bj b0 a gj (.inl hb0) (.inr hw) h2 ha) ej
  ·rw[if_neg (h.has_loc gi)] at h1; rw[if_pos ej] at h2
   simp at h2; subst h2
   exact absurd (h.injE i id bi b0 a gi (.inl hb0) (.inr hw) h1 ha) ei
  ·rw[if_neg (h.has_loc gi)] at h1; rw[if_neg (h.has_loc gj)] at h2
   exact h.injE i j bi bj a' gi gj hr h1 h2
 ·rw[hloc] at hj
  rw[hs]
  split at hj
  ·simp at hj; subst hj; exact h.lt id _ ha
  ·exact h.lt j a' hj
 ·have hj':H.next+1≤j:=hj
  rw[hloc,if_neg (by omega)]
  exact h.fresh j (by omega)
 ·rintro k ⟨j,c,hj,hc,hk'⟩
  rw[hloc] at hk'
  rcases has_moved hle h hb0 hj with ⟨e,rfl⟩ | ⟨_,hj⟩
  ·rw[if_pos e] at hk'; simp at hk'; subst hk'
   exact⟨id,b0,.inl hb0,hw,ha⟩
  ·rw[if_neg (h.has_loc hj)] at hk'
   exact⟨j,c,hj,hc,hk'⟩
theorem loadN_obj {P:Program}{E:Env}{H:AHeap}{id:Nat}{b:AB}{o:Obj}{a:Nat}(hb:BRel E id b o) :
  ∀ (n off i:Nat) (l:List AV),loadN H b (off+i) n=some l →
   ∃ vs,VRelL E l vs∧∀ (w:World) (acc:Array Value),w.heap[a]?=some o→(loadCellsFrom ⟨a,off,none⟩ i n acc).run P w=.ok (acc++vs.toArray) w:=by
 intro n
 induction n with
 | zero =>
  intro off i l h
  simp [loadN] at h; subst h
  exact⟨[],VRelL.nil,fun w acc _=>by simp [loadCellsFrom]⟩
 | succ n ih =>
  intro off i l h
  simp only[loadN] at h
  split at h
  ·rename_i v hv
   split at h
   ·rename_i r hr
    simp at h; subst h
    obtain⟨u,hru,hu⟩:=AB.cell_obj hb hv
    obtain⟨us,hus,hrun⟩:=ih off (i+1) r (by rw[← Nat.add_assoc]; exact hr)
    refine⟨u::us,VRelL.cons hru hus,fun w acc ho=>?_⟩
    simp only[loadCellsFrom,add_none,Sem.run_bind,run_load,(hu w a ho).1,Result.andThen_ok,hrun w _ ho]
    simp
   ·simp at h
  ·simp at h
theorem loadN_ok {P:Program}{E:Env}{H:AHeap}{w:World}{id:Nat}{b:AB}{o:Obj}{a:Nat}(hb:BRel E id b o) (ho:w.heap[a]?=some o)
  (n off i:Nat) (acc:Array Value) (l:List AV) (h:loadN H b (off+i) n=some l) :
   ∃ vs,VRelL E l vs∧(loadCellsFrom ⟨a,off,none⟩ i n acc).run P w=.ok (acc++vs.toArray) w :=
 let ⟨vs,hr,hw⟩:=loadN_obj (P:=P) (a:=a) hb n off i l h; ⟨vs,hr,hw w acc ho⟩
theorem AB.setCell_rw {b b':AB}{i:Nat}{v:AV}(h:b.setCell i v=some b'):b.rw=true∧b'.rw=true:=by
 cases b <;> simp only[AB.setCell] at h <;> first | (simp at h; done) | (split at h <;> simp at h; subst h; exact⟨rfl,rfl⟩)
theorem storeN_ok {P:Program}{E:Env}{H:AHeap}{id:Nat}{a:Nat}(ha:E.loc id=some a) :
  ∀ (l:List AV) (vs:List Value) (off i:Nat) (b b':AB) (w:World) (H1:AHeap),HRel E H1 w→(∀ j,j≠id→H1.get j=H.get j)→H1.next=H.next→H1.get id=some b→b.rw=true →
   VRelL E l vs→storeN b (off+i) l=some b' →
   ∃ w',(storeCells ⟨a,off,none⟩ vs i).run P w=.ok () w'∧HRel E (H1.upd id b') w'∧Kept E H1 w w':=by
 intro l
 induction l with
 | nil =>
  intro vs off i b b' w H1 hH _ _ hb hw hv h
  simp only[VRelL] at hv; subst hv
  simp [storeN] at h; subst h
  obtain⟨a',o,h1,h2,h3⟩:=hH.blk id b hb
  have e:a'=a:=by rw[ha] at h1; simpa using h1.symm
  subst e
  exact⟨w,by simp [storeCells],hH.upd hb hw h1 rfl ⟨o,h2,h3⟩ (fun _ _=>rfl),Kept.refl _ _ _⟩
 | cons x xs ih =>
  intro vs off i b b' w H1 hH hold hnext hb hw hv h
  simp only[VRelL] at hv
  obtain⟨v,ys,hx,hxs,rfl⟩:=hv
  simp only[storeN] at h
  split at h
  ·rename_i hone
   split at h
   ·rename_i b1 hb1
    obtain⟨a',o,h1,h2,h3⟩:=hH.blk id b hb
    have e:a'=a:=by rw[ha] at h1; simpa using h1.symm
    subst e
    obtain⟨⟨u,hu⟩,hf,o',ho',hbr⟩:=AB.setCell_ok h3 h2 hb1 hx
    have hrw:=AB.setCell_rw hb1
    have hH1:HRel E (H1.upd id b1) (w.setCell ⟨a',off+i,none⟩ v) :=
     hH.upd hb hrw.1 h1 (by simp [World.setCell]) ⟨o',ho',hbr⟩ (fun k hk=>by simp only[World.setCell,Array.getElem?_modify]; rw[if_neg (fun e=>hk e.symm)])
    obtain⟨w',hrun,hH',hK⟩:=ih ys off (i+1) b1 b' _ (H1.upd id b1) hH1 (fun j hj=>by rw[get_upd,if_neg hj]; exact hold j hj) hnext (by rw[get_upd,if_pos rfl]) hrw.2 hxs (by rw[← Nat.add_assoc]; exact h)
    refine⟨w',?_,?_,?_⟩
    ·simp only[storeCells,add_none,Sem.run_bind,run_store_ok (AV.one_ok hone hx) hu hf,Result.andThen_ok,hrun]
    ·refine HRel.sub (H1:=(H1.upd id b1).upd id b') (fun j c hj=>?_) (hH.sepS.upd hb) rfl hH'
     ·rcases hj with hj | hj
      ·refine .inl ?_
       rw[get_upd] at hj ⊢
       split
       ·rename_i e; rw[if_pos e] at hj; exact hj
       ·rename_i e; rw[if_neg e] at hj; rw[get_upd,if_neg e]; exact hj
      ·exact .inr hj
    ·have hl:Live E H1 a':=⟨id,b,.inl hb,hrw.1,h1⟩
     refine(Kept.setCell w v hl).trans ⟨hK.os,hK.tape,hK.output,hK.size,fun k hk hn=>hK.block k hk (fun hl'=>hn (Live.upd hH hb hrw.1 hl'))⟩
   ·simp at h
  ·simp at h
theorem isAggB_ok {P:Program}{t:TypeId}{b:Bool}{w:World}(h:isAggB P t=some b):(isAgg t).run P w=.ok b w:=by
 unfold isAggB at h
 split at h <;> simp at h <;> subst h <;> simp [isAgg,underlying, *] <;> (split <;> simp_all)
theorem sizeB_ok {P:Program}{t:TypeId}{n:Nat}{w:World}(h:sizeB P t=some n):(sizeOf t).run P w=.ok n w:=by
 unfold sizeB at h
 simp at h
 obtain⟨i,hi,rfl⟩:=h
 simp [sizeOf,typeInfo,hi]
theorem zeroB_ok {P:Program}{E:Env}{t:TypeId}{z:AV}(h:zeroB P t=some z):∃ v,VRel E z v∧∀ w,(zeroValue t).run P w=.ok v w:=by
 unfold zeroB at h
 simp only[Option.bind_eq_some_iff] at h
 obtain⟨v,⟨i,hi,hz⟩,hv⟩:=h
 exact⟨v,ofConst_ok hv,fun w=>by simp [zeroValue,typeInfo,hi,hz]⟩
theorem underlying_ok {P:Program}{t:TypeId}{d:TypeDesc}{w:World}(h:P.underlying t=some d):(underlying t).run P w=.ok d w:=by
 simp [underlying,h]
theorem AV.cells_one {x:AV}(h:x.one=true):x.cells=[x]:=by cases x <;> simp_all [AV.one,AV.cells]
theorem Value.cells_one {v:Value}(h:v.oneCell'=true):v.cells=#[v]:=by cases v <;> simp_all [Value.oneCell',Value.cells]
theorem AV.cells_ok {E:Env}{x:AV}{v:Value}(h:VRel E x v) (hr:x.isRaw=false):VRelL E x.cells v.cells.toList:=by
 by_cases h1:x.one=true
 ·rw[AV.cells_one h1,Value.cells_one (AV.one_ok h1 h)]
  exact VRelL.cons h VRelL.nil
 ·cases hx:x with
  | agg cs =>
   subst hx
   simp only[VRel] at h
   obtain⟨vs,hv,rfl⟩:=h
   simpa [AV.cells,Value.cells] using hv
  | tuple cs =>
   subst hx
   simp only[VRel] at h
   obtain⟨vs,hv,rfl⟩:=h
   have:VRel E (.tuple cs) (.tuple vs.toArray):=by simp only[VRel]; exact⟨vs,hv,rfl⟩
   exact VRelL.cons this VRelL.nil
  | raw i=>subst hx; simp [AV.isRaw] at hr
  | any=>subst hx; simp [AV.isRaw] at hr
  | ite s a b=>subst hx; simp only[AV.isRaw,AV.one] at hr h1; simp_all
  | _=>subst hx; simp [AV.one] at h1
theorem loadAt_ok {P:Program}{E:Env}{H:AHeap}{w:World}(hH:HRel E H w) {t:TypeId}{id off a:Nat}{x:AV}(ha:E.loc id=some a) (h:loadAt P H t id off=some x) :
  ∃ v,VRel E x v∧(loadVar t ⟨a,off,none⟩).run P w=.ok v w:=by
 unfold loadAt at h
 split at h
 ·rename_i b hag hb
  split at h
  ·rename_i n hn
   simp at h
   obtain⟨l,hl,rfl⟩:=h
   obtain⟨a',o,h1,h2,h3⟩:=hH.blk id b hb
   have e:a'=a:=by rw[ha] at h1; simpa using h1.symm
   subst e
   obtain⟨vs,hvs,hrun⟩:=loadN_ok (P:=P) (H:=H) h3 h2 n off 0 #[] l (by simpa using hl)
   refine⟨.agg vs.toArray,?_,?_⟩
   ·simp only[VRel]; exact⟨vs,hvs,rfl⟩
   ·simp [loadVar,isAggB_ok hag,sizeB_ok hn,loadCells,hrun]
  ·simp at h
 ·rename_i b hag hb
  obtain⟨a',o,h1,h2,h3⟩:=hH.blk id b hb
  have e:a'=a:=by rw[ha] at h1; simpa using h1.symm
  subst e
  obtain⟨v,hc,hr,_⟩:=AB.cell_ok h3 h2 h
  exact⟨v,hr,by simp [loadVar,isAggB_ok hag,hc]⟩
 ·simp at h
theorem storeAt_ok {P:Program}{E:Env}{H H':AHeap}{w:World}(hH:HRel E H w) {t:TypeId}{id off a:Nat}{x:AV}{v:Value}(ha:E.loc id=some a) (hx:VRel E x v)
  (hr:x.isRaw=false) (h:storeAt P H t id off x=some H') :
  ∃ w',(storeVar t ⟨a,off,none⟩ v).run P w=.ok () w'∧HRel E H' w'∧Kept E H w w'∧(∀ k,Live E H' k→Live E H k)∧H'.next=H.next:=by
 unfold storeAt at h
 split at h
 ·rename_i b n hb hn
  split at h
  ·rename_i hlen
   obtain⟨hlen,hw⟩:=hlen
   simp at h
   obtain⟨b',hb',rfl⟩:=h
   have hc:=AV.cells_ok hx hr
   obtain⟨w',hrun,hH',hK⟩:=storeN_ok (P:=P) (H:=H) ha x.cells v.cells.toList off 0 b b' w H hH (fun _ _=>rfl) rfl hb hw hc (by simpa using hb')
   refine⟨w',?_,hH',hK,fun k hk=>Live.upd hH hb hw hk,rfl⟩
   have:v.cells.size=n:=by rw[← hlen,← hc.length]; simp
   simp [storeVar,sizeB_ok hn,this,hrun]
  ·simp at h
 ·simp at h
end Go.Ev
