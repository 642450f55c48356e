/- Ev, part F: what an operation does is what the model does. -/
import Derived.Test.YtmmehhibkpfghaaGreatEvE
import Derived.Laws.Tables
import Derived.Conc.LoneSelect
set_option linter.unusedVariables false
namespace Go.Ev
variable {P:Program} {E:Env} {G:Ctx} {H:AHeap} {w:World}
structure EffOK (E:Env) (H:AHeap) (w:World) (E':Env) (H':AHeap) (w':World):Prop where
 le:E.le E'
 rel:HRel E' H' w'
 kept:Kept E H w w'
 live:∀ a,Live E' H' a→Live E H a∨w.heap.size≤a
 draws:w'.drawn=w'.drawn
def OutV (P:Program) (E:Env) (H:AHeap) (w:World):AOut→Sem Value→Prop
 | .val v,s=>∃ v',VRel E v v'∧s.run P w=.ok v' w
 | .eff v H',s=>∃ E' w' v',EffOK E H w E' H' w'∧VRel E' v v'∧s.run P w=.ok v' w'
 | .enter _ _,_=>False
 | .round _ _,_=>False
 | .fork _,_=>True
 | .fail _,_=>True
 | .defer _,_=>False
def CommTo (P:Program) (w:World) (s:Sem Next) (v:Value) (w':World):Prop :=
 ∃ cases blk shape,s.run P w=.ok (.comm cases blk shape) w∧∀ f cs es,stepG P true (Conc.G f cs) w=.comm (Conc.G f cs) cases blk shape w es→step P (lone f cs w)=.next (lone (f.finish v) cs w')
def OutOK (P:Program) (E:Env) (H:AHeap) (w:World):AOut→Sem Next→Prop
 | .val v,s=>∃ v',VRel E v v'∧s.run P w=.ok (.value v') w
 | .eff v H',s=>∃ E' w',EffOK E H w E' H' w'∧((∃ v',VRel E' v v'∧s.run P w=.ok (.value v') w')∨(VRel E' v undef∧s.run P w=.ok .skip w')∨∃ v',VRel E' v v'∧CommTo P w s v' w')
 | .enter f args,s=>∃ vs,VRelL E args vs∧s.run P w=.ok (.enter f vs.toArray) w
 | .round l args,s=>∃ b vs,E.loc l=some b∧VRelL E args vs∧s.run P w=(Instr.yield b vs.toArray).run P w
 | .fork _,_=>True
 | .fail _,_=>True
 | .defer d,s=>∃ d',DRel E d d'∧s.run P w=.ok (.defer d') w
theorem OutV.ok {r:AOut}{s:Sem Value}(h:OutV P E H w r s):OutOK P E H w r (do pure (.value (← s))):=by
 cases r with
 | val v=>obtain⟨v',hv,hr⟩:=h; exact⟨v',hv,by simp [hr]⟩
 | eff v H'=>obtain⟨E',w',v',he,hv,hr⟩:=h; exact⟨E',w',he,.inl ⟨v',hv,by simp [hr]⟩⟩
 | enter=>exact h.elim
 | round=>exact h.elim
 | fork=>trivial
 | fail=>trivial
 | defer=>exact h.elim
theorem withB_V (hG:G.Ok E) {b:SB}{yes no:AOut}{s:Sem Value}(hy:b.den E=true→OutV P E H w yes s) (hn:b.den E=false→OutV P E H w no s) :
  OutV P E H w (withB G b yes no) s:=by
 unfold withB
 split
 ·rename_i h; exact hy (SB.know_ok hG h)
 ·rename_i h; exact hn (SB.know_ok hG h)
 ·trivial
theorem EffOK.new (hH:HRel E H w) {b:AB}{o:Obj}(cap:Nat) (hb:BRel (E.ext H.next w.heap.size cap) H.next b o) :
  EffOK E H w (E.ext H.next w.heap.size cap) (H.new b) { w with heap:=w.heap.push o } :=
 ⟨Env.le_ext (hH.fresh _ (Nat.le_refl _)),hH.new cap hb,Kept.push _ _ _ _,fun _ hl=>Live.new hH hl,rfl⟩
theorem alloc_V (hH:HRel E H w) {cs:List AV}{e:TypeId}{vs:Array Value}(h:VRelL E cs vs.toList) :
  OutV P E H w (allocA H cs e) (do pure (.pointer (some (← newRow e vs)))):=by
 have hle:E.le (E.ext H.next w.heap.size 0):=Env.le_ext (hH.fresh _ (Nat.le_refl _))
 refine⟨_,_,.pointer (some ⟨w.heap.size,0,none⟩),EffOK.new hH 0 ⟨vs.toList,h.le hle,rfl⟩,?_,?_⟩
 ·simp only[VRel]
  exact⟨w.heap.size,by simp [Env.ext],by simp [SI.den],by simp [SI.den]⟩
 ·simp [newRow]
theorem ofConst_notRaw {v:Value}{a:AV}(h:ofConst v=some a):a.isRaw=false:=by
 unfold ofConst at h
 split at h
 case h_10 cs=>simp at h; obtain⟨r,_,rfl⟩:=h; simp [AV.isRaw]
 case h_11 cs=>simp at h; obtain⟨r,_,rfl⟩:=h; simp [AV.isRaw]
 all_goals (simp at h; try (subst h; simp [AV.isRaw]))
theorem zeroB_notRaw {t:TypeId}{z:AV}(h:zeroB P t=some z):z.isRaw=false:=by
 unfold zeroB at h
 simp only[Option.bind_eq_some_iff] at h
 obtain⟨v,_,hv⟩:=h
 exact ofConst_notRaw hv
theorem valA_V (hG:G.Ok E) {s:Sem Value}{v':Value}(hrun:s.run P w=.ok v' w):∀ {v:AV},VRel E v v'→OutV P E H w (valA G v) s:=by
 intro v
 have base:∀ {v:AV},VRel E v v'→OutV P E H w (.val v) s:=fun hv=>⟨v',hv,hrun⟩
 induction v using AV.rec (motive_2:=fun _=>True) with
 | nil=>trivial
 | cons _ _ _ _=>trivial
 | ite t x y ihx ihy =>
  intro hv
  simp only[VRel] at hv
  simp only[valA]
  split
  ·exact base (by simp only[VRel]; exact hv)
  ·cases lazyP (.ite t x y) with
   | false=>exact withB_V hG (fun h=>ihx (hv.1 h)) (fun h=>ihy (hv.2 h))
   | true =>
    simp only[cond_true]
    split
    ·rename_i hk; exact ihx (hv.1 (SB.know_ok hG hk))
    ·rename_i hk; exact ihy (hv.2 (SB.know_ok hG hk))
    ·exact base (by simp only[VRel]; exact hv)
 | _=>intro hv; simpa only[valA] using base hv
theorem zeroLen_inv:∀ {y:AV}{v:Value},zeroLen y=true→VRel E y v→∃ b c,v=.slice b 0 c:=by
 intro y
 induction y using AV.rec (motive_2:=fun _=>True) with
 | nil=>trivial
 | cons _ _ _ _=>trivial
 | ite s x y ihx ihy =>
  intro v h hv
  simp only[zeroLen,Bool.and_eq_true] at h
  simp only[VRel] at hv
  cases hs:s.den E with
  | true=>exact ihx h.1 (hv.1 hs)
  | false=>exact ihy h.2 (hv.2 hs)
 | nilSlice=>intro v _ hv; simp only[VRel] at hv; exact⟨_,_,hv⟩
 | empty f=>intro v _ hv; simp only[VRel] at hv; obtain⟨a,c,_,rfl⟩:=hv; exact⟨_,_,rfl⟩
 | _=>intro v h; simp [zeroLen] at h
theorem lenIte_inv {x:AV}{v:Value}{n:SI}(h:lenIte x=some n) (hv:VRel E x v) (h0:0≤n.den E):∃ b c,v=.slice b (n.den E).toNat c:=by
 unfold lenIte at h
 split at h
 ·rename_i m id off k cap y
  split at h
  ·rename_i e
   obtain⟨rfl,hz⟩:=e
   cases h
   simp only[VRel] at hv
   cases hs:SB.den E (.lss (.lit (.ofNat 0)) n) with
   | true =>
    obtain⟨b,_,_,rfl⟩:=hv.1 hs
    exact⟨_,_,rfl⟩
   | false =>
    obtain⟨b,c,rfl⟩:=zeroLen_inv hz (hv.2 hs)
    have:n.den E=0:=by
     simp only[SB.den,SI.den] at hs
     have hs:=of_decide_eq_false hs
     have:¬ (0:Int)<n.den E:=hs
     omega
    exact⟨b,c,by rw[this]; rfl⟩
  ·simp at h
 ·simp at h
theorem setMany_ok:∀ {vc:List AV}{vv:List Value}{cs:List AV}{cv:Array Value}{off j:Nat},VRelL E vc vv→VRelL E cs cv.toList →
  VRelL E (setMany cs (off+j) vc) ((vv.zipIdx j).foldl (fun cs (c,j)=>cs.setIfInBounds (off+j) c) cv).toList
 | [],vv,cs,cv,off,j,h,k=>by simp only[VRelL] at h; subst h; simpa [setMany] using k
 | x::xs,vv,cs,cv,off,j,h,k=>by
  simp only[VRelL] at h
  obtain⟨y,ys,hy,hys,rfl⟩:=h
  simp only[setMany,List.zipIdx_cons,List.foldl_cons]
  have:=setMany_ok (cs:=cs.set (off+j) x) (cv:=cv.setIfInBounds (off+j) y) (off:=off) (j:=j+1) hys (by simpa using k.set (off+j) hy)
  rw[Nat.add_assoc]; exact this
theorem fill_ok {place:Nat→Option (Nat × Nat)}:∀ {parts:List (Nat × AV)}{pv:List (Nat × Value)}{cs:List AV}{cv:Array Value}{out:List AV},
  parts.length=pv.length→(∀ (i:Nat) (p:Nat × AV) (q:Nat × Value),parts[i]?=some p→pv[i]?=some q→p.1=q.1∧VRel E p.2 q.2)→VRelL E cs cv.toList →
  fillA place cs parts=some out→∃ ov,Instr.fill place cv pv=some ov∧VRelL E out ov.toList
 | [],pv,cs,cv,out,hl,hp,hc,h=>by
  simp [fillA] at h; subst h
  have:pv=[]:=by cases pv <;> simp_all
  subst this
  exact⟨cv,rfl,hc⟩
 | (i,x)::rest,pv,cs,cv,out,hl,hp,hc,h=>by
  cases pv with
  | nil=>simp at hl
  | cons q qs =>
   obtain⟨i',v⟩:=q
   obtain⟨rfl,hx⟩:=hp 0 (i,x) (i',v) rfl rfl
   simp only[fillA] at h
   split at h
   ·simp at h
   ·rename_i off size hpl
    split at h
    ·rename_i hcond
     obtain⟨hraw,hsz,hbd⟩:=hcond
     have hxc:=AV.cells_ok hx hraw
     have hlen1:v.cells.size=size:=by rw[← hsz,← hxc.length]; simp
     have hlen2:cv.size=cs.length:=by rw[← hc.length]; simp
     have hset:=setMany_ok (off:=off) (j:=0) hxc hc
     obtain⟨ov,hov,hrel⟩:=fill_ok (place:=place) (parts:=rest) (pv:=qs) (by simpa using hl) (fun k p q h1 h2=>hp (k+1) p q (by simpa using h1) (by simpa using h2)) hset h
     refine⟨ov,?_,hrel⟩
     simp only[Instr.fill,hpl]
     rw[if_neg (by simp; omega)]
     have:v.cells.zipIdx.foldl (fun cs (c,j)=>cs.setIfInBounds (off+j) c) cv=(v.cells.toList.zipIdx 0).foldl (fun cs (c,j)=>cs.setIfInBounds (off+j) c) cv:=by
      rw[← Array.foldl_toList]; simp
     rw[this]; exact hov
    ·simp at h
theorem parts_ok {ev:Operand→AV}{ρ:Operand→Value}{ps:List (Nat × Operand)}(h:∀ p ∈ ps,VRel E (ev p.2) (ρ p.2)) :
  ∀ (i:Nat) (p:Nat × AV) (q:Nat × Value),(ps.map fun p=>(p.1,ev p.2))[i]?=some p→(ps.map fun p=>(p.1,ρ p.2))[i]?=some q→p.1=q.1∧VRel E p.2 q.2:=by
 intro i p q h1 h2
 simp only[List.getElem?_map,Option.map_eq_some_iff] at h1 h2
 obtain⟨x,hx,rfl⟩:=h1
 obtain⟨y,hy,rfl⟩:=h2
 rw[hx] at hy; simp at hy; subst hy
 exact⟨rfl,h x (List.mem_of_getElem? hx)⟩
theorem repeatL_ok {z:List AV}{zv:Array Value}(h:VRelL E z zv.toList):∀ (n:Nat),VRelL E (repeatL z n) ((Array.range (n*zv.size)).map (fun i=>zv[i % zv.size]!)).toList:=by
 intro n
 induction n with
 | zero=>simp [repeatL,VRelL]
 | succ n ih =>
  have e:((Array.range ((n+1)*zv.size)).map (fun i=>zv[i % zv.size]!)).toList=zv.toList++((Array.range (n*zv.size)).map (fun i=>zv[i % zv.size]!)).toList:=by
   apply List.ext_getElem?
   intro i
   simp only[Array.toList_map,Array.toList_range,List.getElem?_map,List.getElem?_append,Array.length_toList]
   by_cases hi:i<zv.size
   ·have h1:i<(n+1)*zv.size:=by rw[Nat.succ_mul]; omega
    rw[if_pos hi,List.getElem?_range h1]
    simp [Nat.mod_eq_of_lt hi,hi]
   ·rw[if_neg hi]
    by_cases h1:i<(n+1)*zv.size
    ·have h2:i-zv.size<n*zv.size:=by rw[Nat.succ_mul] at h1; omega
     rw[List.getElem?_range h1,List.getElem?_range h2]
     have:i % zv.size=(i-zv.size) % zv.size:=by rw[Nat.mod_eq_sub_mod (by omega)]
     simp [this]
    ·have h2:¬ i-zv.size<n*zv.size:=by rw[Nat.succ_mul] at h1; omega
     rw[List.getElem?_eq_none (by simpa using h1),List.getElem?_eq_none (by simpa using h2)]
  rw[e]
  exact VRelL.append h ih
end Go.Ev
