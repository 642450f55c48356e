/- Ev, part 3: what is found at a cut is so. -/
import Derived.Test.YtmmehhibkpfghaaGreatEv2
set_option linter.unusedVariables false
namespace Go.Ev
variable {P:Program} {S:Start} {E:Env} {G:Ctx} {w:World} {σ:Sub}
noncomputable def inst (σ:Sub) (E:Env):Env where
 loc:=fun id=>if id<σ.next then (σ.ids.get id).bind E.loc else none
 cap:=fun id=>match σ.ids.get id with | some j=>E.cap j | none=>0
 int:=fun i=>(nthS σ.ints (.lit 0) i).den E
 bool:=fun i=>(nthT σ.bools (.lit false) i).den E
 row:=fun i=>(nthS σ.rows (.con 0) i).cells E
 val:=E.val
theorem mkRmap_cells (hG:G.Ok E) {k:IntKind}{o:Int}:∀ {a:SI}{j:Int},(mkRmap G k o a).cells E j=k.wrap (a.cells E (j+o))
 | .con v,j=>rfl
 | .upd a i v,j=>by
  simp only[mkRmap,SI.cells,mkAdd_den,mkWrap_den hG,SI.den]
  rw[mkRmap_cells hG]
  by_cases h:j=i.den E + -o
  ·rw[if_pos h,if_pos (by omega)]
  ·rw[if_neg h,if_neg (by omega)]
 | .lit _,_ | .var _,_ | .add _ _,_ | .sub _ _,_ | .mul _ _,_ | .quo _ _,_ | .rem _ _,_ | .wrap _ _,_ | .bits _ _ _ _,_ | .shl _ _ _,_ | .shr _ _,_ | .sel _ _ _,_ | .row _,_ | .app _ _ _ _,_ | .rmap _ _ _,_ | .cnt _ _ _,_=>rfl
theorem subst_den (hG:G.Ok E) (a:SI):(a.subst G σ).den E=a.den (inst σ E)∧∀ j,(a.substR G σ).cells E j=a.cells (inst σ E) j:=by
 induction a with
 | lit n=>exact⟨rfl,fun _=>rfl⟩
 | var i=>exact⟨rfl,fun _=>rfl⟩
 | add a b iha ihb=>exact⟨by simp only[SI.subst,mkAdd_den,SI.den,iha.1,ihb.1],fun _=>rfl⟩
 | sub a b iha ihb=>exact⟨by simp only[SI.subst,mkSub_den,SI.den,iha.1,ihb.1],fun _=>rfl⟩
 | mul a b iha ihb=>exact⟨by simp only[SI.subst,mkMul_den,SI.den,iha.1,ihb.1],fun _=>rfl⟩
 | quo a b iha ihb=>exact⟨by simp only[SI.subst,SI.den,iha.1,ihb.1],fun _=>rfl⟩
 | rem a b iha ihb=>exact⟨by simp only[SI.subst,SI.den,iha.1,ihb.1],fun _=>rfl⟩
 | wrap k a ih=>exact⟨by simp only[SI.subst,mkWrap_den hG,SI.den,ih.1],fun _=>rfl⟩
 | bits o k a b iha ihb=>exact⟨by simp only[SI.subst,mkBits_den,SI.den,iha.1,ihb.1],fun _=>rfl⟩
 | shl k a n ih=>exact⟨by simp only[SI.subst,SI.den,ih.1],fun _=>rfl⟩
 | shr a n ih=>exact⟨by simp only[SI.subst,SI.den,ih.1],fun _=>rfl⟩
 | sel k a i iha ihi=>exact⟨by simp only[SI.subst,SI.den,iha.2,ihi.1],fun _=>rfl⟩
 | cnt c a d iha ihd=>exact⟨by simp only[SI.subst,SI.den,iha.2,ihd.1],fun _=>rfl⟩
 | row i=>exact⟨rfl,fun _=>rfl⟩
 | con v=>exact⟨rfl,fun _=>rfl⟩
 | upd a i v iha ihi ihv=>exact⟨rfl,fun j=>by simp only[SI.substR,SI.cells,iha.2,ihi.1,ihv.1]⟩
 | rmap k a o ih=>exact⟨rfl,fun j=>by simp only[SI.substR,mkRmap_cells hG,SI.cells,ih.2]⟩
 | app a n b o iha ihn ihb iho=>exact⟨rfl,fun j=>by simp only[SI.substR,SI.cells,iha.2,ihn.1,ihb.2,iho.1]⟩
theorem substB_den (hG:G.Ok E) (a:SB):(a.subst G σ).den E=a.den (inst σ E):=by
 induction a with
 | lit b=>rfl
 | var i=>rfl
 | lss a b=>simp only[SB.subst,mkLss_den hG,SB.den,(subst_den hG _).1]
 | eql a b=>simp only[SB.subst,mkEql_den hG,SB.den,(subst_den hG _).1]
 | not a ih=>simp only[SB.subst,mkNot_den,SB.den,ih]
 | iff a b iha ihb=>simp only[SB.subst,mkIff_den,SB.den,iha,ihb]
theorem intOK_ok (hG:G.Ok E) {a b:SI}(h:intOK G σ a b=true):a.den (inst σ E)=b.den E:=by
 unfold intOK at h
 simp only at h
 rw[← (subst_den hG a).1]
 split at h
 ·rename_i e; rw[e]
 ·split at h
  ·rename_i t ht
   subst h
   have:=SB.know_ok hG ht
   rw[mkEql_den hG] at this
   simpa using this
  ·split at h
   ·rename_i t ht
    subst h
    have:=SB.know_ok hG ht
    rw[mkEql_den hG] at this
    exact(by simpa using this:b.den E=_).symm
   ·simp at h
theorem tidy_den {E:Env}(b:SB):b.tidy.den E=b.den E:=by
 unfold SB.tidy
 split
 ·simp only[SB.den,SI.den]; exact decide_eq_decide.2 (by omega)
 ·simp only[SB.den,SI.den]; exact decide_eq_decide.2 (by omega)
 ·rfl
theorem boolOK_ok (hG:G.Ok E) {a b:SB}(h:boolOK G σ a b=true):a.den (inst σ E)=b.den E:=by
 unfold boolOK at h
 simp only at h
 rw[← substB_den hG a]
 split at h
 ·rename_i e; rw[e]
 ·split at h
  ·rename_i e; rw[← tidy_den,e,tidy_den]
  ·split at h
   ·rename_i t ht
    subst h
    have:=SB.know_ok hG ht
    rw[mkIff_den] at this
    simpa using this
   ·simp at h
theorem idOK_ok {i j:Nat}(h:idOK σ i j=true):i<σ.next∧σ.ids.get i=some j∧(inst σ E).loc i=E.loc j∧(inst σ E).cap i=E.cap j:=by
 unfold idOK at h
 simp only[Bool.and_eq_true,natBlt,decide_eq_true_eq] at h
 obtain⟨h1,h2⟩:=h
 split at h2
 ·rename_i k hk
  have:k=j:=Nat.eq_of_beq_eq_true h2
  subst this
  exact⟨h1,hk,by simp [inst,h1,hk],by simp [inst,hk]⟩
 ·simp at h2
theorem zeroOK_ok (hG:G.Ok E):∀ {y:AV}{v:Value},zeroOK G σ y=true→(∃ a c,v=.slice (some a) 0 c)→VRel (inst σ E) y v:=by
 intro y
 induction y using AV.rec (motive_2:=fun _=>True) with
 | nil=>trivial
 | cons _ _ _ _=>trivial
 | empty f =>
  intro v h hv
  obtain⟨a,c,rfl⟩:=hv
  cases f
  ·simp only[VRel]; exact⟨a,c,fun k=>by simp at k,rfl⟩
  ·simp [zeroOK] at h
 | ite s x y ihx ihy =>
  intro v h hv
  simp only[zeroOK] at h
  simp only[VRel]
  split at h
  ·rename_i hk
   have:=SB.know_ok hG hk
   rw[substB_den hG] at this
   exact⟨fun _=>ihx h hv,fun k=>by rw[this] at k; simp at k⟩
  ·rename_i hk
   have:=SB.know_ok hG hk
   rw[substB_den hG] at this
   exact⟨fun k=>by rw[this] at k; simp at k,fun _=>ihy h hv⟩
  ·simp at h
 | _=>intro v h; simp [zeroOK] at h
mutual
theorem valOK_ok (hG:G.Ok E):∀ {a b:AV}{v:Value},valOK G σ a b=true→VRel E b v→VRel (inst σ E) a v
 | .any,b,v,h,hv=>trivial
 | .ite s x y,b,v,h,hv=>by
  unfold valOK at h
  simp only[Bool.or_eq_true] at h
  simp only[VRel]
  rcases h with h | h
  ·split at h
   ·rename_i t u z
    simp only[Bool.and_eq_true] at h
    simp only[VRel] at hv
    have hs:=boolOK_ok hG h.1.1
    exact⟨fun k=>valOK_ok hG h.1.2 (deIte_ok hG (hv.1 (by rw[← hs]; exact k))),fun k=>valOK_ok hG h.2 (deIte_ok hG (hv.2 (by rw[← hs]; exact k)))⟩
   ·simp at h
  ·split at h
   ·rename_i hk
    have:=SB.know_ok hG hk
    rw[substB_den hG] at this
    exact⟨fun _=>valOK_ok hG h hv,fun k=>by rw[this] at k; simp at k⟩
   ·rename_i hk
    have:=SB.know_ok hG hk
    rw[substB_den hG] at this
    exact⟨fun k=>by rw[this] at k; simp at k,fun _=>valOK_ok hG h hv⟩
   ·split at h
    ·rename_i i o l c
     simp only[Bool.and_eq_true,decide_eq_true_eq] at h
     refine⟨fun _=>valOK_ok hG h.1.2 hv,fun k=>zeroOK_ok hG h.2 ?_⟩
     have e:s.den (inst σ E)=decide ((SI.lit 0).den E<l.den E):=by
      rw[← substB_den hG,h.1.1,mkLss_den hG]
     rw[k] at e
     have e:¬ (0:Int)<l.den E:=of_decide_eq_false e.symm
     simp only[VRel] at hv
     obtain⟨b,_,_,rfl⟩:=hv
     exact⟨_,_,by rw[show (l.den E).toNat=0 by omega]⟩
    ·simp at h
 | .bool a,b,v,h,hv=>by
  cases b <;> simp only[valOK,Bool.false_eq_true] at h
  simp only[VRel] at hv ⊢; rw[boolOK_ok hG h]; exact hv
 | .int k a,b,v,h,hv=>by
  cases b <;> simp only[valOK,Bool.false_eq_true,Bool.and_eq_true,decide_eq_true_eq] at h
  obtain⟨rfl,h⟩:=h
  simp only[VRel] at hv ⊢; rw[intOK_ok hG h]; exact hv
 | .str a,b,v,h,hv=>by
  cases b <;> simp only[valOK,Bool.false_eq_true,decide_eq_true_eq] at h
  subst h; simpa only[VRel] using hv
 | .nilPtr,b,v,h,hv=>by
  cases b <;> simp only[valOK,Bool.false_eq_true] at h
  simpa only[VRel] using hv
 | .ptr i a,b,v,h,hv=>by
  cases b <;> simp only[valOK,Bool.false_eq_true,Bool.and_eq_true] at h
  obtain⟨_,_,h3,h4⟩:=idOK_ok (E:=E) h.1
  simp only[VRel] at hv ⊢; rw[h3,intOK_ok hG h.2]; exact hv
 | .nilSlice,b,v,h,hv=>by
  cases b <;> simp only[valOK,Bool.false_eq_true] at h
  simpa only[VRel] using hv
 | .slice i a c d,b,v,h,hv=>by
  cases b <;> simp only[valOK,Bool.false_eq_true,Bool.and_eq_true] at h
  obtain⟨_,_,h3,h4⟩:=idOK_ok (E:=E) h.1.1.1
  simp only[VRel] at hv ⊢; rw[h3,intOK_ok hG h.1.1.2,intOK_ok hG h.1.2,intOK_ok hG h.2]; exact hv
 | .slack i a c d,b,v,h,hv=>by
  cases b <;> simp only[valOK,Bool.false_eq_true,Bool.and_eq_true] at h
  obtain⟨_,_,h3,h4⟩:=idOK_ok (E:=E) h.1.1.1
  simp only[VRel] at hv ⊢; rw[h3,h4,Nat.eq_of_beq_eq_true h.1.1.2,Nat.eq_of_beq_eq_true h.1.2,Nat.eq_of_beq_eq_true h.2]; exact hv
 | .oslice i a n,b,v,h,hv=>by
  cases b <;> simp only[valOK,Bool.false_eq_true,Bool.and_eq_true] at h
  ·obtain⟨_,_,h3,h4⟩:=idOK_ok (E:=E) h.1.1.1
   have e0:=Nat.eq_of_beq_eq_true h.1.1.2
   have e1:=intOK_ok hG h.2
   simp only[VRel] at hv ⊢; rw[h3,h4,e1]
   obtain⟨b,hb,hl,rfl⟩:=hv
   subst e0
   simp only[SI.den]
   exact⟨b,hb,by omega,by omega,by simp⟩
  ·obtain⟨_,_,h3,h4⟩:=idOK_ok (E:=E) h.1.1
   simp only[VRel] at hv ⊢; rw[h3,h4,intOK_ok hG h.2]; exact hv
 | .empty a,b,v,h,hv=>by
  cases b <;> simp only[valOK,Bool.false_eq_true,Bool.or_eq_true,Bool.and_eq_true,Bool.not_eq_true',beq_iff_eq] at h
  ·obtain⟨ha,hl⟩:=h
   subst ha
   split at hl
   ·rename_i l _ t hk
    have e:=SB.know_ok hG hk
    rw[mkLss_den hG] at e
    cases t
    ·have e:¬ (0:Int)<SI.den E _:=of_decide_eq_false e
     simp only[VRel] at hv ⊢
     obtain⟨b,_,_,rfl⟩:=hv
     exact⟨_,_,fun k=>by simp at k,by rw[show (SI.den E _).toNat=0 from Int.toNat_of_nonpos (Int.not_lt.1 e)]⟩
    ·simp at hl
   ·simp at hl
  ·simp only[VRel] at hv ⊢
   obtain⟨x,c,hc,rfl⟩:=hv
   exact⟨x,c,fun k=>by rcases h with rfl | rfl <;> simp_all,rfl⟩
 | .nilMap,b,v,h,hv=>by
  cases b <;> simp only[valOK,Bool.false_eq_true] at h
  simpa only[VRel] using hv
 | .map i,b,v,h,hv=>by
  cases b <;> simp only[valOK,Bool.false_eq_true] at h
  obtain⟨_,_,h3,h4⟩:=idOK_ok (E:=E) h
  simp only[VRel] at hv ⊢; rw[h3]; exact hv
 | .nilChan,b,v,h,hv=>by
  cases b <;> simp only[valOK,Bool.false_eq_true] at h
  simpa only[VRel] using hv
 | .chan i,b,v,h,hv=>by
  cases b <;> simp only[valOK,Bool.false_eq_true] at h
  obtain⟨_,_,h3,h4⟩:=idOK_ok (E:=E) h
  simp only[VRel] at hv ⊢; rw[h3]; exact hv
 | .func f x y,b,v,h,hv=>by
  cases b <;> simp only[valOK,Bool.false_eq_true,Bool.and_eq_true,decide_eq_true_eq] at h
  obtain⟨⟨rfl,h1⟩,h2⟩:=h
  simp only[VRel] at hv ⊢
  obtain⟨p,q,hn,hp,hq,rfl⟩:=hv
  exact⟨p,q,hn,valsOK_ok hG h1 hp,valsOK_ok hG h2 hq,rfl⟩
 | .yieldF i,b,v,h,hv=>by
  cases b <;> simp only[valOK,Bool.false_eq_true] at h
  obtain⟨_,_,h3,h4⟩:=idOK_ok (E:=E) h
  simp only[VRel] at hv ⊢; rw[h3]; exact hv
 | .nilFunc,b,v,h,hv=>by
  cases b <;> simp only[valOK,Bool.false_eq_true] at h
  simpa only[VRel] using hv
 | .iface t x,b,v,h,hv=>by
  cases b <;> simp only[valOK,Bool.false_eq_true,Bool.and_eq_true] at h
  have e:=Nat.eq_of_beq_eq_true h.1
  simp only[VRel] at hv ⊢
  obtain⟨y,hy,rfl⟩:=hv
  exact⟨y,valOK_ok hG h.2 (deIte_ok hG hy),by rw[e]⟩
 | .nilIface,b,v,h,hv=>by
  cases b <;> simp only[valOK,Bool.false_eq_true] at h
  simpa only[VRel] using hv
 | .agg x,b,v,h,hv=>by
  cases b <;> simp only[valOK,Bool.false_eq_true] at h
  simp only[VRel] at hv ⊢
  obtain⟨vs,hvs,rfl⟩:=hv
  exact⟨vs,valsOK_ok hG h hvs,rfl⟩
 | .tuple x,b,v,h,hv=>by
  cases b <;> simp only[valOK,Bool.false_eq_true] at h
  simp only[VRel] at hv ⊢
  obtain⟨vs,hvs,rfl⟩:=hv
  exact⟨vs,valsOK_ok hG h hvs,rfl⟩
 | .raw i,b,v,h,hv=>by cases b <;> simp only[valOK,Bool.false_eq_true] at h
theorem valsOK_ok (hG:G.Ok E):∀ {a b:List AV}{v:List Value},valsOK G σ a b=true→VRelL E b v→VRelL (inst σ E) a v
 | [],b,v,h,hv=>by
  cases b with
  | nil=>simpa only[VRelL] using hv
  | cons y ys=>simp [valsOK] at h
 | x::xs,b,v,h,hv=>by
  cases b with
  | nil=>simp [valsOK] at h
  | cons y ys =>
   simp only[valsOK,Bool.and_eq_true] at h
   simp only[VRelL] at hv ⊢
   obtain⟨u,us,hu,hus,rfl⟩:=hv
   exact⟨u,us,valOK_ok hG h.1 (deIte_ok hG hu),valsOK_ok hG h.2 hus,rfl⟩
end
theorem defOK_ok (hG:G.Ok E) {a b:ADef}{d:Deferred}(h:defOK G σ a b=true) (hd:DRel E b d):DRel (inst σ E) a d:=by
 cases a <;> cases b <;> simp only[defOK,Bool.false_eq_true,Bool.and_eq_true] at h
 ·obtain⟨_,_,h3,_⟩:=idOK_ok (E:=E) h
  obtain⟨b,hb,rfl⟩:=hd
  exact⟨b,by rw[h3]; exact hb,rfl⟩
 ·obtain⟨vs,cs,hv,rfl⟩:=hd
  rw[← Nat.eq_of_beq_eq_true h.1]
  exact⟨vs,cs,valsOK_ok hG h.2 hv,rfl⟩
theorem defsOK_ok (hG:G.Ok E):∀ {a b:List ADef}{d:List Deferred},defsOK G σ a b=true→DRelL E b d→DRelL (inst σ E) a d
 | [],b,d,h,hd=>by
  cases b with
  | nil=>exact hd
  | cons y ys=>simp [defsOK] at h
 | x::xs,b,d,h,hd=>by
  cases b with
  | nil=>simp [defsOK] at h
  | cons y ys =>
   simp only[defsOK,Bool.and_eq_true] at h
   obtain⟨u,r,h1,h2,rfl⟩:=hd
   exact⟨u,r,defOK_ok hG h.1 h1,defsOK_ok hG h.2 h2,rfl⟩
theorem tmpsOK_ok {a b:Tr AV}:∀ {n:Nat},tmpsOK G σ a b n=true→∀ t,t<n→valOK G σ ((a.get t).getD undefA) (deIte G ((b.get t).getD undefA))=true
 | 0,_,t,ht=>by omega
 | n+1,h,t,ht=>by
  simp only[tmpsOK,Bool.and_eq_true] at h
  by_cases e:t=n
  ·subst e; exact h.1
  ·exact tmpsOK_ok h.2 t (by omega)
theorem tmps_TRel (hG:G.Ok E) {a b:Tr AV}{n:Nat}{tv:Array Value}(h:tmpsOK G σ a b n=true) (ht:TRel E b n tv):TRel (inst σ E) a n tv :=
 ⟨ht.1,fun t hl=>let ⟨v,hv,hr⟩:=ht.2 t hl; ⟨v,hv,valOK_ok hG (tmpsOK_ok h t hl) (deIte_ok hG hr)⟩⟩
theorem tmps_ARel (hG:G.Ok E) {a b:Tr AV}{n:Nat}{tv:Array Value}{pre:List (Nat × Oper)}{l:List Nat}(h:tmpsOK G σ a b n=true) (ht:ARel E pre l b n tv):ARel (inst σ E) pre l a n tv :=
 ⟨ht.1,fun t hl hp=>let ⟨v,hv,hr⟩:=ht.2 t hl hp; ⟨v,hv,valOK_ok hG (tmpsOK_ok h t hl) (deIte_ok hG hr)⟩⟩
theorem itemsOK_ok:∀ {a b:List AItem}{k:List Item},itemsOK σ a b=true→a.map AItem.bare=b.map AItem.bare→IRelL E b k→IRelL (inst σ E) a k
 | [],b,k,h,he,hk=>by
  cases b with
  | nil=>exact hk
  | cons y ys=>simp at he
 | x::xs,b,k,h,he,hk=>by
  cases b with
  | nil=>simp at he
  | cons y ys =>
   simp only[List.map_cons,List.cons.injEq] at he
   obtain⟨i,r,hi,hr,rfl⟩:=hk
   have key:(itemsOK σ xs ys=true∧IRel (inst σ E) x i)→IRelL (inst σ E) (x::xs) (i::r):=fun ⟨h1,h2⟩=>⟨i,r,h2,itemsOK_ok h1 he.2 hr,rfl⟩
   cases x with
   | inRangeFunc l =>
    cases y <;> simp only[itemsOK,Bool.false_eq_true,Bool.and_eq_true] at h
    obtain⟨_,_,h3,_⟩:=idOK_ok (E:=E) h.1
    obtain⟨b,hb,rfl⟩:=hi
    exact key ⟨h.2,b,by rw[h3]; exact hb,rfl⟩
   | endRangeFunc l =>
    cases y <;> simp only[itemsOK,Bool.false_eq_true,Bool.and_eq_true] at h
    obtain⟨_,_,h3,_⟩:=idOK_ok (E:=E) h.1
    obtain⟨b,hb,rfl⟩:=hi
    exact key ⟨h.2,b,by rw[h3]; exact hb,rfl⟩
   | code c=>cases y <;> simp only[AItem.bare,itemsOK,reduceCtorEq,false_and,AItem.code.injEq] at he h <;> (obtain⟨rfl,_⟩:=he; exact key ⟨h,hi⟩)
   | inBlock c=>cases y <;> simp only[AItem.bare,itemsOK,reduceCtorEq,false_and,AItem.inBlock.injEq] at he h <;> (obtain⟨rfl,_⟩:=he; exact key ⟨h,hi⟩)
   | inLoop c=>cases y <;> simp only[AItem.bare,itemsOK,reduceCtorEq,false_and,AItem.inLoop.injEq] at he h <;> (obtain⟨rfl,_⟩:=he; exact key ⟨h,hi⟩)
   | inScope c=>cases y <;> simp only[AItem.bare,itemsOK,reduceCtorEq,false_and,AItem.inScope.injEq] at he h <;> (obtain⟨rfl,_⟩:=he; exact key ⟨h,hi⟩)
   | beginRound=>cases y <;> simp only[AItem.bare,itemsOK,reduceCtorEq,false_and] at he h <;> exact key ⟨h,hi⟩
theorem frOK_ok (hG:G.Ok E) {a b:AFrame}{f:Frame}{s:Bool}(h:frOK G σ a b=true) (hc:a.ctl=b.ctl) (hf:FRel E s b f):FRel (inst σ E) s a f∧a.returning=b.returning∧a.deferred=b.deferred∧a.fn=b.fn:=by
 unfold frOK at h
 simp only[Bool.and_eq_true,beq_iff_eq] at h
 obtain⟨⟨⟨⟨⟨⟨⟨h1,h2⟩,h3⟩,h4⟩,h5⟩,h6⟩,h7⟩,h8⟩:=h
 have e1:=Nat.eq_of_beq_eq_true h1
 have e2:=Nat.eq_of_beq_eq_true h2
 unfold AFrame.ctl at hc
 simp only[FCtl.mk.injEq] at hc
 obtain⟨_,_,hreg,htodo⟩:=hc
 refine⟨⟨by rw[e1]; exact hf.fn,by rw[h6]; exact hf.kind,?_,defsOK_ok hG h4 hf.defers,by rw[h5]; exact hf.mode,?_⟩,h5,h6,e1⟩
 ·have hr:=hf.round
  split at h7
  ·rename_i p q
   rw[q] at hr; rw[p]; exact hr
  ·rename_i i j p q
   rw[q] at hr; rw[p]
   obtain⟨b,hb,hk⟩:=hr
   obtain⟨_,_,h3,_⟩:=idOK_ok (E:=E) h7
   exact⟨b,by rw[h3]; exact hb,hk⟩
  ·simp at h7
 ·have hb:=hf.body
  rw[h5]
  rw[e2] at h8 ⊢
  split
  ·rename_i hr
   rw[if_pos hr] at hb
   exact tmps_TRel hG h8 hb
  ·rename_i hr
   rw[if_neg hr] at hb
   obtain⟨k,hk,hreg'⟩:=hb
   refine⟨k,itemsOK_ok h3 htodo hk,?_⟩
   unfold RegRel at hreg' ⊢
   rw[hreg,e2]
   split at hreg'
   ·exact⟨hreg'.1,tmps_TRel hG h8 hreg'.2⟩
   ·exact⟨hreg'.1,hreg'.2.1,tmps_TRel hG h8 hreg'.2.2⟩
   ·obtain⟨done,l,q1,q2,q3,q4⟩:=hreg'
    exact⟨done,l,q1,q2,tmps_ARel hG h8 q3,q4⟩
theorem frsOK_ok (hG:G.Ok E):∀ {a b:List AFrame}{fs:List Frame}{d:Bool},frsOK G σ a b=true→a.map AFrame.ctl=b.map AFrame.ctl→CRelL E d b fs→CRelL (inst σ E) d a fs∧a.map AFrame.fn=b.map AFrame.fn
 | [],b,fs,d,h,hc,hf=>by
  cases b with
  | nil=>exact⟨hf,rfl⟩
  | cons y ys=>simp at hc
 | x::xs,b,fs,d,h,hc,hf=>by
  cases b with
  | nil=>simp at hc
  | cons y ys =>
   simp only[frsOK,Bool.and_eq_true] at h
   simp only[List.map_cons,List.cons.injEq] at hc
   obtain⟨f,r,h1,h2,h3,rfl⟩:=hf
   obtain⟨k1,k2,k3,k4⟩:=frOK_ok hG h.1 hc.1 h1
   obtain⟨q1,q2⟩:=frsOK_ok hG h.2 hc.2 h3
   exact⟨⟨f,r,k1,by rw[k2]; exact h2,by rw[k3]; exact q1,rfl⟩,by simp [k4,q2]⟩
theorem upd_lit {a v:SI}{i j:Nat}:(SI.upd a (.lit (i:Int)) v).cells E (j:Int)=if j=i then v.den E else a.cells E (j:Int):=by
 show (if (j:Int)=(i:Int) then _ else _)=_
 by_cases h:j=i
 ·rw[if_pos h,if_pos (by omega)]
 ·rw[if_neg h,if_neg (by omega)]
theorem cellsTerm_ok (hG:G.Ok E) {pat:List CK}:∀ {ds:List AV}{i:Nat}{a x:SI}{vs:List Value},cellsTerm G pat i ds a=some x→VRelL E ds vs→(∀ j:Nat,i≤j→a.cells E (j:Int)=0) →
  (∀ j:Nat,j<i→x.cells E (j:Int)=a.cells E (j:Int))∧∀ j:Nat,j<ds.length→∃ ck,pat[(i+j) % pat.length]?=some ck∧vs[j]?=some (ck.val (x.cells E ((i+j:Nat):Int)))
 | [],i,a,x,vs,h,hv,hz=>by
  simp [cellsTerm] at h; subst h
  exact⟨fun _ _=>rfl,fun j hj=>by simp at hj⟩
 | v::ds,i,a,x,vs,h,hv,hz=>by
  simp only[VRelL] at hv
  obtain⟨y,ys,hy,hys,rfl⟩:=hv
  unfold cellsTerm at h
  have go:∀ {a':SI} {ck:CK} {m:Int},cellsTerm G pat (i+1) ds a'=some x→pat[i % pat.length]?=some ck→y=ck.val m→(∀ j:Nat,a'.cells E (j:Int)=if j=i then m else a.cells E (j:Int)) →
    (∀ j:Nat,j<i→x.cells E (j:Int)=a.cells E (j:Int))∧∀ j:Nat,j<(v::ds).length→∃ ck,pat[(i+j) % pat.length]?=some ck∧(y::ys)[j]?=some (ck.val (x.cells E ((i+j:Nat):Int))):=by
   intro a' ck m h1 h2 h3 h4
   obtain⟨k1,k2⟩:=cellsTerm_ok hG h1 hys (fun j hj=>by rw[h4,if_neg (by omega)]; exact hz j (by omega))
   refine⟨fun j hj=>by rw[k1 j (by omega),h4,if_neg (by omega)],fun j hj=>?_⟩
   cases j with
   | zero=>exact⟨ck,by simpa using h2,by simp only[Nat.add_zero]; rw[k1 i (by omega),h4,if_pos rfl]; simp [h3]⟩
   | succ j =>
    obtain⟨ck',q1,q2⟩:=k2 j (by simpa using hj)
    have e:i+1+j=i+(j+1):=by omega
    rw[e] at q1 q2
    exact⟨ck',q1,by simpa using q2⟩
  split at h
  ·rename_i k l n hp
   split at h
   ·rename_i hc
    obtain⟨rfl,c1,c2⟩:=hc
    have hy:=VRel.int_inv hy
    refine go (m:=n) h hp (by rw[hy]; simp only[CK.val,SI.den]; rw[wrap_self k n c1 c2]) (fun j=>?_)
    by_cases hn:n=0
    ·rw[if_pos hn]
     by_cases e:j=i
     ·rw[if_pos e,hn]; exact hz j (by omega)
     ·rw[if_neg e]
    ·rw[if_neg hn]
     exact upd_lit
   ·simp at h
  ·rename_i k l x0 hno hp
   split at h
   ·rename_i hkl
    subst hkl
    split at h
    ·rename_i r hr
     split at h
     ·rename_i hin
      have hy:=VRel.int_inv hy
      have hb:=SI.range_ok hG hr
      simp [inRange] at hin
      refine go (m:=x0.den E) h hp (by rw[hy]; simp only[CK.val]; rw[wrap_self k _ (by omega) (by omega)]) (fun j=>?_)
      exact upd_lit
     ·simp at h
    ·simp at h
   ·simp at h
  ·rename_i s hp
   split at h
   ·rename_i t ht
    have ht:=SB.know_ok hG ht
    simp only[VRel] at hy
    rw[ht] at hy
    refine go (m:=if t then 1 else 0) h hp (by rw[hy]; cases t <;> simp [CK.val] <;> decide) (fun j=>?_)
    cases t with
    | false =>
     by_cases e:j=i
     ·rw[if_pos e]; simpa using hz j (by omega)
     ·rw[if_neg e]; simp
    | true =>
     simp only[if_true]; exact upd_lit
   ·simp at h
  ·simp at h
theorem rowBase_cells {E:Env}:∀ {a:SI}{j:Int},(∀ i ∈ rowIdx a,j≠i.den E)→a.cells E j=(rowBase a).cells E j
 | .upd a i v,j,h=>by
  simp only[SI.cells,rowBase]
  rw[if_neg (h i (by simp [rowIdx]))]
  exact rowBase_cells (fun i' hi'=>h i' (by simp [rowIdx,hi']))
 | .lit _,_,_ | .var _,_,_ | .add _ _,_,_ | .sub _ _,_,_ | .mul _ _,_,_ | .quo _ _,_,_ | .rem _ _,_,_ | .wrap _ _,_,_ | .bits _ _ _ _,_,_ | .shl _ _ _,_,_ | .shr _ _,_,_ | .sel _ _ _,_,_ | .row _,_,_ | .con _,_,_ | .app _ _ _ _,_,_ | .rmap _ _ _,_,_ | .cnt _ _ _,_,_=>rfl
theorem selOK_ok (hG:G.Ok E) {k:IntKind}{a b i:SI}(h:selOK G k a b i=true):k.wrap (a.cells E (i.den E))=k.wrap (b.cells E (i.den E)):=by
 unfold selOK at h
 split at h
 ·rename_i x y hx hy
  have hx:=mkSel_den hG _ _ _ hx
  have hy:=mkSel_den hG _ _ _ hy
  rw[← hx,← hy]
  split at h
  ·rename_i e; rw[e]
  ·split at h
   ·rename_i t ht
    subst h
    have:=SB.know_ok hG ht
    rw[mkEql_den hG] at this
    simpa using this
   ·simp at h
 ·simp at h
theorem selOKb_ok (hG:G.Ok E) {a b i:SI}(h:selOKb G a b i=true):(IntKind.i64.wrap (a.cells E (i.den E)) == 1)=(IntKind.i64.wrap (b.cells E (i.den E)) == 1):=by
 unfold selOKb at h
 split at h
 ·rename_i x y hx hy
  have hx:=mkSel_den hG _ _ _ hx
  have hy:=mkSel_den hG _ _ _ hy
  rw[← hx,← hy]
  split at h
  ·rename_i s t hs ht
   have hs:=SB.know_ok hG hs
   have ht:=SB.know_ok hG ht
   rw[mkEql_den hG] at hs ht
   have e:s=t:=by simpa using h
   simp only[SI.den] at hs ht
   rw[hs,ht,e]
  ·simp at h
 ·simp at h
theorem idxOK_ok (hG:G.Ok E) {pat:List CK}{n a b i:SI}(h:idxOK G pat n a b i=true) {j:Nat}(hj:(j:Int)=i.den E) (hlt:j<(n.den E).toNat*pat.length) {ck:CK}(hck:pat[j % pat.length]?=some ck) :
  ck.val (a.cells E j)=ck.val (b.cells E j):=by
 unfold idxOK at h
 simp only[Bool.or_eq_true] at h
 rcases h with (h | h) | h
 ·split at h
  ·rename_i t ht
   subst h
   have:=SB.know_ok hG ht
   rw[mkLss_den hG] at this
   have:=of_decide_eq_true this
   simp only[SI.den] at this
   omega
  ·simp at h
 ·split at h
  ·rename_i t ht
   have:=SB.know_ok hG ht
   rw[mkLss_den hG,mkMul_den] at this
   have ht':t=false:=by simpa using h
   subst ht'
   have:=Int.not_lt.1 (of_decide_eq_false this)
   simp only[SI.den] at this
   rw[← hj] at this
   have hn:0≤n.den E:=by
    refine Decidable.byContradiction fun hneg=>?_
    have:(n.den E).toNat=0:=by omega
    rw[this] at hlt; omega
   obtain⟨m,hm⟩:=Int.eq_ofNat_of_zero_le hn
   rw[hm] at this hlt
   simp only[Int.toNat_natCast] at hlt
   have h2:((m*pat.length:Nat):Int)≤(j:Int):=by push_cast; exact this
   omega
  ·simp at h
 ·split at h
  ·rename_i q c hs
   obtain⟨h1,h2⟩:=splitOff_ok (E:=E) hs
   have hq:0≤q.den E:=by
    refine Decidable.byContradiction fun hneg=>?_
    have h3:(q.den E+1)*(pat.length:Int)≤0:=Int.mul_nonpos_of_nonpos_of_nonneg (by omega) (by omega)
    rw[Int.add_mul,Int.one_mul] at h3
    omega
   obtain⟨m,hm⟩:=Int.eq_ofNat_of_zero_le hq
   rw[hm] at h1
   have hjm:j=m*pat.length+c:=by
    have:(j:Int)=((m*pat.length+c:Nat):Int):=by rw[hj,h1]; push_cast; rfl
    omega
   have hmod:j % pat.length=c:=by rw[hjm]; exact nat_mul_add_div h2
   rw[hmod] at hck
   rw[hck] at h
   cases ck with
   | int k =>
    simp only at h
    have:=selOK_ok hG h
    rw[← hj] at this
    simp only[CK.val,this]
   | bool =>
    simp only[Bool.or_eq_true] at h
    rcases h with h | h
    ·have:=selOK_ok hG h
     rw[← hj] at this
     simp only[CK.val,this]
    ·have:=selOKb_ok hG h
     rw[← hj] at this
     simp only[CK.val,this]
  ·simp at h
theorem baseGap_ok {E:Env}{a b i:SI}(h:baseGap a b=some i) {j:Int}(hj:j≠i.den E):a.cells E j=b.cells E j:=by
 unfold baseGap at h
 split at h
 ·rename_i x n v o y m w o'
  split at h
  ·rename_i hc
   obtain⟨rfl,rfl⟩:=hc
   simp only[SI.cells]
   split at h
   ·rename_i hm
    simp at h; subst h
    have hmd:m.den E=n.den E+1:=by rw[← hm,mkAdd_den]; rfl
    by_cases h1:j<n.den E
    ·rw[if_pos h1,if_pos (by omega)]
    ·rw[if_neg h1,if_neg (by omega)]
   ·split at h
    ·rename_i hm
     simp at h; subst h
     have hmd:n.den E=m.den E+1:=by rw[← hm,mkAdd_den]; rfl
     by_cases h1:j<m.den E
     ·rw[if_pos (by omega),if_pos h1]
     ·rw[if_neg (by omega),if_neg h1]
    ·simp at h
  ·simp at h
 ·simp at h
theorem rowOK1_ok (hG:G.Ok E) {pat:List CK}{n a b:SI}(h:rowOK1 G pat n a b=true) {j:Nat}(hlt:j<(n.den E).toNat*pat.length) {ck:CK}(hck:pat[j % pat.length]?=some ck):ck.val (a.cells E j)=ck.val (b.cells E j):=by
 unfold rowOK1 at h
 split at h
 ·rename_i e; rw[e]
 ·split at h
  ·rename_i hb
   simp only[Bool.and_eq_true,List.all_eq_true] at h
   obtain⟨h1,h2⟩:=h
   by_cases hi:∃ i ∈ rowIdx a++rowIdx b,(j:Int)=i.den E
   ·obtain⟨i,hi,he⟩:=hi
    rcases List.mem_append.1 hi with hi | hi
    ·exact idxOK_ok hG (h1 i hi) he hlt hck
    ·exact idxOK_ok hG (h2 i hi) he hlt hck
   ·have e1:=rowBase_cells (E:=E) (a:=a) (j:=j) (fun i hm he=>hi ⟨i,List.mem_append.2 (.inl hm),he⟩)
    have e2:=rowBase_cells (E:=E) (a:=b) (j:=j) (fun i hm he=>hi ⟨i,List.mem_append.2 (.inr hm),he⟩)
    rw[e1,e2,hb]
  ·split at h
   ·rename_i i hg
    simp only[Bool.and_eq_true,List.all_eq_true] at h
    obtain⟨⟨h0,h1⟩,h2⟩:=h
    by_cases hi:∃ i ∈ rowIdx a++rowIdx b,(j:Int)=i.den E
    ·obtain⟨i,hi,he⟩:=hi
     rcases List.mem_append.1 hi with hi | hi
     ·exact idxOK_ok hG (h1 i hi) he hlt hck
     ·exact idxOK_ok hG (h2 i hi) he hlt hck
    ·by_cases hj:(j:Int)=i.den E
     ·exact idxOK_ok hG h0 hj hlt hck
     ·have e1:=rowBase_cells (E:=E) (a:=a) (j:=j) (fun i hm he=>hi ⟨i,List.mem_append.2 (.inl hm),he⟩)
      have e2:=rowBase_cells (E:=E) (a:=b) (j:=j) (fun i hm he=>hi ⟨i,List.mem_append.2 (.inr hm),he⟩)
      rw[e1,e2,baseGap_ok hg hj]
   ·unfold fewOK at h
    split at h
    ·rename_i m
     simp only[Bool.and_eq_true,List.all_eq_true] at h
     have hj:j<m*pat.length:=by simpa [SI.den] using hlt
     exact idxOK_ok hG (h.2 j (List.mem_range.2 hj)) (i:=.lit (j:Nat)) (by simp [SI.den]) hlt hck
    ·simp at h
theorem rowOK_ok (hG:G.Ok E) {pat:List CK}{n a b:SI}(h:rowOK G pat n a b=true) {j:Nat}(hlt:j<(n.den E).toNat*pat.length) {ck:CK}(hck:pat[j % pat.length]?=some ck):ck.val (a.cells E j)=ck.val (b.cells E j):=by
 unfold rowOK at h
 split at h
 ·rename_i x c
  rw[Bool.or_eq_true] at h
  rcases h with h | h
  ·rw[← rowOK1_ok hG h hlt hck]
   have:SI.cells E (.app x (.lit 0) c (.lit 0)) j=SI.cells E c j:=by
    have hn:¬ ((j:Int)<SI.den E (.lit 0)):=by simp [SI.den]
    show (if (j:Int)<SI.den E (.lit 0) then SI.cells E x j else SI.cells E c ((j:Int)-SI.den E (.lit 0)+SI.den E (.lit 0)))=_
    rw[if_neg hn]
    congr 1
   rw[this]
  ·exact rowOK1_ok hG h hlt hck
 ·exact rowOK1_ok hG h hlt hck
theorem row_of_cells (hG:G.Ok E) {pat:List CK}{ds:List AV}{vs rest:List Value}{a n x:SI}(hp:pat≠[]) (hx:cellsTerm G pat 0 ds (.con 0)=some x) (ha:rowOK G pat (.lit (ds.length / pat.length:Nat)) (a.substR G σ) x=true) (hm:Nat.beq (ds.length % pat.length) 0=true)
  (hn:intOK G σ n (.lit (ds.length / pat.length:Nat))=true) (hv:VRelL E ds vs):Row (inst σ E) a n pat (vs++rest).toArray∧(n.den (inst σ E)).toNat*pat.length=vs.length:=by
 have hn:=intOK_ok hG hn
 have hm:=Nat.eq_of_beq_eq_true hm
 have hl:=hv.length
 simp only[SI.den] at hn
 have hdiv:ds.length / pat.length*pat.length=ds.length:=by
  have:=Nat.div_add_mod' ds.length pat.length
  omega
 obtain⟨_,h2⟩:=cellsTerm_ok hG hx hv (fun j _=>by simp [SI.cells])
 rw[show (n.den (inst σ E)).toNat=ds.length / pat.length by rw[hn]; exact Int.toNat_natCast _,hdiv]
 refine⟨⟨by rw[hn]; exact Int.natCast_nonneg _,?_,fun j hj=>?_⟩,hl.symm⟩
 ·rw[hn]; simp only[Int.toNat_natCast,List.size_toArray,List.length_append]; rw[hdiv]; omega
 ·rw[hn] at hj
  simp only[Int.toNat_natCast] at hj
  rw[hdiv] at hj
  obtain⟨ck,q1,q2⟩:=h2 j hj
  simp only[Nat.zero_add] at q1 q2
  refine⟨ck,q1,?_⟩
  rw[← (subst_den hG a).2,rowOK_ok hG ha (by simp only[SI.den]; rw[Int.toNat_natCast,hdiv]; exact hj) q1]
  simp only[List.getElem?_toArray]
  rw[List.getElem?_append_left (by omega)]
  exact q2
theorem pairsOK_ok (hG:G.Ok E):∀ {a b:List (AV × AV)}{l:List MapEntry},pairsOK G σ a b=true→ERelL E b l→ERelL (inst σ E) a l
 | [],b,l,h,hl=>by
  cases b with
  | nil=>exact hl
  | cons y ys=>simp [pairsOK] at h
 | x::xs,b,l,h,hl=>by
  cases b with
  | nil=>simp [pairsOK] at h
  | cons y ys =>
   simp only[pairsOK,Bool.and_eq_true] at h
   obtain⟨e,r,h1,h2,h3,rfl⟩:=hl
   exact⟨e,r,valOK_ok hG h.1.1 (deIte_ok hG h1),valOK_ok hG h.1.2 (deIte_ok hG h2),pairsOK_ok hG h.2 h3,rfl⟩
theorem Row.inst (hG:G.Ok E) {a n a' n':SI}{pat:List CK}{vs:Array Value}(ha:rowOK G pat n' (a.substR G σ) a'=true) (hn:intOK G σ n n'=true) (h:Row E a' n' pat vs):Row (inst σ E) a n pat vs:=by
 have hn:=intOK_ok hG hn
 unfold Row at h ⊢
 rw[hn]
 refine⟨h.1,h.2.1,fun j hj=>?_⟩
 obtain⟨ck,h1,h2⟩:=h.2.2 j hj
 refine⟨ck,h1,?_⟩
 rw[← (subst_den hG a).2,rowOK_ok hG ha hj h1]
 exact h2
theorem RowM.inst (hG:G.Ok E) {md md':Md}{a n a' n':SI}{pat:List CK}{vs:Array Value}(hm:mdOK G σ md md'=true) (ha:rowOK G pat n' (a.substR G σ) a'=true) (hn:intOK G σ n n'=true) (h:RowM E md' a' n' pat vs) :
  RowM (inst σ E) md a n pat vs:=by
 cases md <;> cases md' <;> simp only[mdOK,Bool.false_eq_true] at hm
 case ro.ro o o' =>
  have:=intOK_ok hG hm
  exact⟨by rw[this]; exact h.1,by rw[this]; exact Row.inst hG ha hn h.2⟩
 all_goals exact Row.inst hG ha hn h
theorem mdOK_same {md md':Md}(h:mdOK G σ md md'=true):md.isRo=md'.isRo∧(md=.own↔md'=.own)∧(md=.opn↔md'=.opn):=by
 cases md <;> cases md' <;> simp [mdOK,Md.isRo] at h ⊢
theorem rw_row {md md':Md}(h:md.isRo=md'.isRo) {a n a' n':SI}{p p':List CK}{e e':TypeId}:(AB.row md a n p e).rw=(AB.row md' a' n' p' e').rw:=by cases md <;> cases md' <;> first | rfl | simp [Md.isRo] at h
theorem blkOK_rw {b c:AB}(h:blkOK G σ b c=true) (hr:b.rw=true):c.rw=true:=by
 unfold blkOK at h
 split at h
 case h_3 =>
  simp only[Bool.and_eq_true,decide_eq_true_eq] at h
  obtain⟨⟨⟨⟨h,_⟩,_⟩,_⟩,_⟩:=h
  exact(rw_row (mdOK_same h).1).symm.trans hr
 all_goals first
  | rfl
  | exact hr
  | (simp [AB.rw] at hr; done)
  | (simp at h; done)
theorem repOK_ok (hG:G.Ok E) {z:AV}{ov:Tr AV}:∀ {cs:List AV}{i n:Nat}{vs:Array Value},repOK G σ z ov cs i=true→(∀ j,j<n→∃ v,vs[j]?=some v∧VRel E ((ov.get j).getD z) v)→vs.size=n∧i+cs.length=n →
  VRelL (inst σ E) cs (vs.toList.drop i)
 | [],i,n,vs,_,_,h=>by
  simp only[VRelL]
  exact List.drop_eq_nil_of_le (by simp at h ⊢; omega)
 | c::r,i,n,vs,h,hc,hn=>by
  simp only[repOK,Bool.and_eq_true] at h
  simp only[List.length_cons] at hn
  obtain⟨v,hv,hr⟩:=hc i (by omega)
  have hlt:i<vs.toList.length:=by simp; omega
  rw[List.drop_eq_getElem_cons hlt]
  refine⟨_,_,?_,repOK_ok hG h.2 hc (by omega),rfl⟩
  have:vs.toList[i]=v:=by
   have:=Array.getElem?_eq_some_iff.1 hv
   simpa using this.2
  rw[this]
  exact valOK_ok hG h.1 (deIte_ok hG hr)
theorem valsOK_get:∀ {cs ds:List AV}{i:Nat}{x:AV},valsOK G σ cs ds=true→cs[i]?=some x→∃ y,ds[i]?=some y∧valOK G σ x (deIte G y)=true
 | [],_,_,_,_,hx=>by simp at hx
 | _::_,[],_,_,h,_=>by simp [valsOK] at h
 | c::cs,d::ds,0,x,h,hx=>by
  simp at hx; subst hx
  simp only[valsOK,Bool.and_eq_true] at h
  exact⟨d,rfl,h.1⟩
 | c::cs,d::ds,i+1,x,h,hx=>by
  simp only[valsOK,Bool.and_eq_true] at h
  obtain⟨y,hy,hxy⟩:=valsOK_get (i:=i) h.2 (by simpa using hx)
  exact⟨y,by simpa using hy,hxy⟩
theorem valsPre_get:∀ {cs ds:List AV}{i:Nat}{x:AV},valsPre G σ cs ds=true→cs[i]?=some x→i<ds.length→∃ y,ds[i]?=some y∧valOK G σ x (deIte G y)=true
 | [],_,_,_,_,hx,_=>by simp at hx
 | _::_,[],_,_,_,_,hl=>by simp at hl
 | c::cs,d::ds,0,x,h,hx,_=>by
  simp at hx; subst hx
  simp only[valsPre,Bool.and_eq_true] at h
  exact⟨d,rfl,h.1⟩
 | c::cs,d::ds,i+1,x,h,hx,hl=>by
  simp only[valsPre,Bool.and_eq_true] at h
  obtain⟨y,hy,hxy⟩:=valsPre_get (i:=i) h.2 (by simpa using hx) (by simpa using hl)
  exact⟨y,by simpa using hy,hxy⟩
theorem gapRos_ok {a b:SI}{k:Nat}(h:gapRos a b=some k):a.den E=b.den E+k:=by
 unfold gapRos at h
 split at h
 ·split at h
  ·simp at h; subst h; simp only[SI.den]; omega
  ·simp at h
 ·split at h
  ·rename_i q hq
   simp at h; subst h
   rw[stripS_ok hq]; simp [SI.den]
  ·simp at h
theorem gapRosG_ok (hG:G.Ok E) {a b:SI}{k:Nat}(h:gapRosG G a b=some k):a.den E=b.den E+k:=by
 unfold gapRosG at h
 split at h
 ·rename_i q hq; simp at h; subst h; exact gapRos_ok hq
 ·split at h
  ·rename_i x y hx hy
   split at h
   ·rename_i hc
    have h1:=SI.rangeT_ok hG hx
    have h2:=SI.rangeT_ok hG hy
    simp at h; subst h
    omega
   ·simp at h
  ·simp at h
theorem rosOK_ok (hG:G.Ok E) {o n o' n':SI}{cs ds:List AV}{vs:Array Value}(h:rosOK G σ o n cs o' n' ds=true) (h0:0≤o'.den E)
  (hv:∀ (i:Nat) x,ds[i]?=some x→(i:Int)<n'.den E→∃ v,vs[(o'.den E).toNat+i]?=some v∧VRel E x v) :
  0≤o.den (inst σ E)∧∀ (i:Nat) x,cs[i]?=some x→(i:Int)<n.den (inst σ E)→∃ v,vs[(o.den (inst σ E)).toNat+i]?=some v∧VRel (inst σ E) x v:=by
 unfold rosOK at h
 split at h
 ·rename_i k hk
  have e1:=gapRosG_ok hG hk
  rw[(subst_den hG o).1] at e1
  simp only[Bool.and_eq_true,Bool.or_eq_true] at h
  obtain⟨⟨h1,h2⟩,h3⟩:=h
  have e2:=intOK_ok (E:=E) hG h1
  rw[mkAdd_den] at e2
  simp only[SI.den] at e2
  refine⟨by omega,fun i x hx hi=>?_⟩
  have hil:i<cs.length:=(List.getElem?_eq_some_iff.1 hx).1
  have hlt:i<(ds.drop k).length:=by
   rw[List.length_drop]
   rcases h3 with h3 | h3
   ·have:=Nat.le_of_ble_eq_true h3; omega
   ·split at h3
    ·rename_i t ht
     have:=SB.know_ok hG ht
     rw[mkLss_den hG] at this
     simp at h3; subst h3
     have:=of_decide_eq_false this
     simp only[SI.den] at this
     omega
    ·simp at h3
  obtain⟨y,hy,hxy⟩:=valsPre_get h2 hx hlt
  rw[List.getElem?_drop] at hy
  obtain⟨v,r1,r2⟩:=hv (k+i) y hy (by omega)
  exact⟨v,by rw[← r1]; congr 1; omega,valOK_ok hG hxy (deIte_ok hG r2)⟩
 ·simp at h
theorem blkOK_ok (hG:G.Ok E) {b c:AB}{i j:Nat}{o:Obj}(h:blkOK G σ b c=true) (hl:b.lctl=c.lctl) (hcap:(inst σ E).cap i=E.cap j) (hb:BRel E j c o):BRel (inst σ E) i b o:=by
 unfold blkOK at h
 split at h
 ·simp only[Bool.and_eq_true] at h
  obtain⟨vs,hv,rfl⟩:=hb
  exact⟨vs,valsOK_ok hG h.2 hv,by rw[Nat.eq_of_beq_eq_true h.1]⟩
 ·simp only[Bool.and_eq_true] at h
  obtain⟨vs,rest,hv,rfl,hc⟩:=hb
  exact⟨vs,rest,valsOK_ok hG h.2 hv,by rw[Nat.eq_of_beq_eq_true h.1.1],by rw[hcap,Nat.eq_of_beq_eq_true h.1.2]; exact hc⟩
 ·simp only[Bool.and_eq_true,decide_eq_true_eq] at h
  obtain⟨⟨⟨⟨hmd,ha⟩,hn⟩,rfl⟩,he⟩:=h
  obtain⟨m1,m2,m3⟩:=mdOK_same hmd
  obtain⟨vs,fz,e2,rfl,h1,h2,h3,h4⟩:=hb
  exact⟨vs,fz,e2,rfl,by rw[m1,Nat.eq_of_beq_eq_true he]; exact h1,h2.inst hG hmd ha hn,by rw[intOK_ok hG hn,m2]; exact h3,by rw[hcap,m3]; exact h4⟩
 ·simp only[Bool.and_eq_true,decide_eq_true_eq] at h
  obtain⟨⟨⟨⟨he,hp⟩,hx⟩,hm⟩,hn⟩:=h
  split at hx
  ·rename_i x hx'
   obtain⟨vs,hv,rfl⟩:=hb
   obtain⟨h1,h2⟩:=row_of_cells (rest:=[]) hG hp hx' hx hm hn hv
   exact⟨vs.toArray,(0,0),_,rfl,fun _=>⟨rfl,(Nat.eq_of_beq_eq_true he).symm⟩,(show Row _ _ _ _ _ by simpa using h1),fun _=>by simpa using h2.symm,fun h=>by simp at h⟩
  ·simp at hx
 ·simp only[Bool.and_eq_true,decide_eq_true_eq] at h
  obtain⟨⟨⟨⟨⟨he,hp⟩,hs⟩,hx⟩,hm⟩,hn⟩:=h
  split at hx
  ·rename_i x hx'
   obtain⟨vs,rest,hv,rfl,hc⟩:=hb
   obtain⟨h1,h2⟩:=row_of_cells (rest:=rest) hG hp hx' hx hm hn hv
   exact⟨(vs++rest).toArray,(0,0),_,rfl,fun _=>⟨rfl,(Nat.eq_of_beq_eq_true he).symm⟩,h1,fun h=>by simp at h,fun _=>by rw[hcap,← Nat.eq_of_beq_eq_true hs]; simpa using hc⟩
  ·simp at hx
 ·simp only[Bool.and_eq_true,decide_eq_true_eq] at h
  obtain⟨⟨⟨⟨⟨rfl,h2⟩,h3⟩,rfl⟩,h5⟩,h6⟩:=h
  obtain⟨tv,d,ht,hd,rfl⟩:=hb
  simp only[AB.lctl,Option.some.injEq,Prod.mk.injEq] at hl
  obtain⟨_,_,k3,_⟩:=idOK_ok (E:=E) h6
  have e2:=Nat.eq_of_beq_eq_true h2
  have e3:=Nat.eq_of_beq_eq_true h3
  subst e3
  exact⟨tv,d,tmps_TRel hG h5 ht,by rw[k3]; exact hd,by rw[e2,hl.1,hl.2]⟩
 ·exact hb
 ·obtain⟨ds,hd,rfl⟩:=hb
  exact⟨ds,defsOK_ok hG h hd,rfl⟩
 ·simp only[Bool.and_eq_true] at h
  obtain⟨vs,s,r,hv,rfl⟩:=hb
  exact⟨vs,s,r,valsOK_ok hG h.2 hv,by rw[Nat.eq_of_beq_eq_true h.1]⟩
 ·simp only[Bool.and_eq_true] at h
  obtain⟨u,s,r,hv,rfl⟩:=hb
  exact⟨u,s,r,fun k=>valOK_ok hG h.2 (deIte_ok hG (hv (by rw[← boolOK_ok hG h.1]; exact k))),by rw[boolOK_ok hG h.1]⟩
 ·simp only[Bool.and_eq_true] at h
  obtain⟨vs,s,r,hv,rfl⟩:=hb
  simp only[VRelL] at hv
  subst hv
  obtain⟨h1,h2⟩:=h
  split at h2
  ·rename_i t hk
   have:=SB.know_ok hG hk
   rw[substB_den hG] at this
   simp at h2; subst h2
   exact⟨undef,s,r,fun k=>by rw[this] at k; simp at k,by rw[this,Nat.eq_of_beq_eq_true h1]; simp⟩
  ·simp at h2
 ·simp only[Bool.and_eq_true] at h
  obtain⟨vs,s,r,hv,rfl⟩:=hb
  simp only[VRelL] at hv
  obtain⟨u,_,hu,rfl,rfl⟩:=hv
  obtain⟨⟨h1,h2⟩,h3⟩:=h
  split at h2
  ·rename_i t hk
   have:=SB.know_ok hG hk
   rw[substB_den hG] at this
   subst h2
   exact⟨u,s,r,fun _=>valOK_ok hG h3 (deIte_ok hG hu),by rw[this,Nat.eq_of_beq_eq_true h1]; simp⟩
  ·simp at h2
 ·obtain⟨l,c,hl,rfl⟩:=hb
  exact⟨l,c,pairsOK_ok hG h hl,rfl⟩
 ·simp only[Bool.and_eq_true] at h
  obtain⟨⟨h1,h2⟩,h3⟩:=h
  have h2:=Nat.eq_of_beq_eq_true h2
  obtain⟨vs,rfl,hs,hc⟩:=hb
  refine⟨vs.toList,?_,by rw[Nat.eq_of_beq_eq_true h1]⟩
  have:=repOK_ok hG h3 (vs:=vs) hc ⟨hs,by omega⟩
  rwa [List.drop_zero] at this
 ·simp only[Bool.and_eq_true,Bool.or_eq_true] at h
  obtain⟨h123,h4⟩:=h
  obtain⟨vs,fz,e2,rfl,k1,k2⟩:=hb
  rcases h123 with ⟨⟨h1,h2⟩,h3⟩ | h3
  ·refine⟨vs,fz,e2,rfl,by rw[intOK_ok hG h1]; exact k1,fun q x hx hq=>?_⟩
   rw[intOK_ok hG h2] at hq
   obtain⟨y,hy,hxy⟩:=valsOK_get h3 hx
   obtain⟨v,r1,r2⟩:=k2 q y hy hq
   exact⟨v,by rw[intOK_ok hG h1]; exact r1,valOK_ok hG hxy (deIte_ok hG r2)⟩
  ·obtain⟨r1,r2⟩:=rosOK_ok hG h3 k1 k2
   exact⟨vs,fz,e2,rfl,r1,r2⟩
 ·simp only[Bool.and_eq_true] at h
  obtain⟨⟨⟨h1,h2⟩,h3⟩,h4⟩:=h
  obtain⟨vs,rest,hv,rfl,hc⟩:=hb
  have e1:=intOK_ok (E:=E) hG h1
  have e2:=intOK_ok (E:=E) hG h2
  simp only[SI.den] at e1 e2
  refine⟨_,_,_,rfl,by rw[e1]; exact Int.le_refl 0,fun q x hx hq=>?_⟩
  rw[e2] at hq
  obtain⟨y,hy,hxy⟩:=valsPre_get h3 hx (by omega)
  obtain⟨v,r1,r2⟩:=VRelL.get hv hy
  refine⟨v,?_,valOK_ok hG hxy (deIte_ok hG r2)⟩
  rw[e1]
  have hq':q<vs.length:=(List.getElem?_eq_some_iff.1 r1).1
  simp [List.getElem?_append_left hq',r1]
 ·simp at h
theorem nodupM_ok:∀ {l:List Nat}{m:Nat},nodupM l m=true→l.Nodup∧∀ x ∈ l,m.testBit x=false
 | [],_,_=>⟨List.nodup_nil,fun x hx=>by simp at hx⟩
 | x::xs,m,h=>by
  simp only[nodupM] at h
  cases e:Nat.beq (Nat.land m (Nat.pow 2 x)) 0
  ·rw[e] at h; simp at h
  ·rw[e,cond_true] at h
   obtain⟨h1,h2⟩:=nodupM_ok h
   have e1:m &&& 2 ^ x=0:=Nat.eq_of_beq_eq_true e
   have h0:m.testBit x=false:=by
    have:=congrArg (fun n=>n.testBit x) e1
    simpa [Nat.testBit_and,Nat.testBit_two_pow_self] using this
   have hor:∀ y,y ∈ xs→(m ||| 2 ^ x).testBit y=false:=fun y hy=>h2 y hy
   refine⟨List.nodup_cons.2 ⟨fun hm=>?_,h1⟩,fun y hy=>?_⟩
   ·have:=hor x hm
    simp [Nat.testBit_or,Nat.testBit_two_pow_self] at this
   ·rcases List.mem_cons.1 hy with rfl | hy
    ·exact h0
    ·have:=hor y hy
     simp only[Nat.testBit_or,Bool.or_eq_false_iff] at this
     exact this.1
theorem nodupB_ok {l:List Nat}(h:nodupB l=true):l.Nodup:=(nodupM_ok h).1
theorem blocksOK_mem {H:AHeap}:∀ {l:List (Nat × AB)},blocksOK G σ H l=true→∀ i b,(i,b) ∈ l→∃ j c,σ.ids.get i=some j∧H.get j=some c∧blkOK G σ b c=true
 | [],_,i,b,hm=>by simp at hm
 | (k,x)::r,h,i,b,hm=>by
  simp only[blocksOK,Bool.and_eq_true] at h
  rcases List.mem_cons.1 hm with e | hm
  ·simp at e; obtain⟨rfl,rfl⟩:=e
   have h:=h.1
   split at h
   ·rename_i j hj
    split at h
    ·rename_i c hc; exact⟨j,c,hj,hc,h⟩
    ·simp at h
   ·simp at h
  ·exact blocksOK_mem h.2 i b hm
theorem findB_mem {id:Nat}{b:AB}:∀ {l:List (Nat × AB)},findB id l=some b→(id,b) ∈ l
 | [],h=>by simp [findB] at h
 | (i,c)::r,h=>by
  simp only[findB] at h
  cases e:Nat.beq i id
  ·rw[e,cond_false] at h; exact List.mem_cons_of_mem _ (findB_mem h)
  ·rw[e,cond_true] at h
   simp at h; subst h
   rw[Nat.eq_of_beq_eq_true e]; simp
theorem findG_mem {id:Nat}{s:SB}{b:AB}:∀ {l:List (SB × List (Nat × AB))},findG id l=some (s,b)→∃ g ∈ l,g.1=s∧(id,b) ∈ g.2
 | [],h=>by simp [findG] at h
 | (t,l)::r,h=>by
  simp only[findG] at h
  split at h
  ·rename_i c hc
   simp at h; obtain⟨rfl,rfl⟩:=h
   exact⟨(t,l),by simp,rfl,findB_mem hc⟩
  ·obtain⟨g,hg,h1,h2⟩:=findG_mem h
   exact⟨g,List.mem_cons_of_mem _ hg,h1,h2⟩
theorem layG_get {s:SB}{j:Nat}{x:SB × AB}:∀ {l:List (Nat × AB)}{t:Tr (SB × AB)},(layG s t l).get j=some x→t.get j=some x∨(x.1=s∧(j,x.2) ∈ l)
 | [],t,h=>.inl h
 | (i,b)::r,t,h=>by
  rcases layG_get (l:=r) (t:=t.set i (s,b)) h with h | ⟨h1,h2⟩
  ·rw[Tr.get_set] at h
   split at h
   ·rename_i e
    cases h
    exact .inr ⟨rfl,by rw[e]; simp⟩
   ·exact .inl h
  ·exact .inr ⟨h1,List.mem_cons_of_mem _ h2⟩
theorem idxG_get {j:Nat}{x:SB × AB}:∀ {gs:List (SB × List (Nat × AB))}{t:Tr (SB × AB)},(idxG t gs).get j=some x→t.get j=some x∨∃ g ∈ gs,g.1=x.1∧(j,x.2) ∈ g.2
 | [],t,h=>.inl h
 | (s,l)::r,t,h=>by
  rcases idxG_get (gs:=r) (t:=layG s t l) h with h | ⟨g,hg,h1,h2⟩
  ·rcases layG_get h with h | ⟨h1,h2⟩
   ·exact .inl h
   ·exact .inr ⟨(s,l),by simp,h1.symm,h2⟩
  ·exact .inr ⟨g,List.mem_cons_of_mem _ hg,h1,h2⟩
theorem gblocksOK_mem (hG:G.Ok E) {H:AHeap}{s:SB}(hs:s.den (inst σ E)=true) {X:Tr (SB × AB)}(hX:∀ j x,X.get j=some x→∃ g ∈ H.gs,g.1=x.1∧(j,x.2) ∈ g.2):∀ {l:List (Nat × AB)},gblocksOK G σ H X s l=true→∀ i b,(i,b) ∈ l→∃ j c,σ.ids.get i=some j∧H.has E j c∧blkOK G σ b c=true
 | [],_,i,b,hm=>by simp at hm
 | (k,x)::r,h,i,b,hm=>by
  simp only[gblocksOK,Bool.and_eq_true] at h
  rcases List.mem_cons.1 hm with e | hm
  ·simp at e; obtain⟨rfl,rfl⟩:=e
   have h:=h.1
   split at h
   ·rename_i j hj
    split at h
    ·rename_i c hc; exact⟨j,c,hj,.inl hc,h⟩
    ·split at h
     ·rename_i t c hf
      simp only[Bool.and_eq_true] at h
      obtain⟨g,hg,h1,h2⟩:=hX _ _ hf
      refine⟨j,c,hj,.inr ⟨g,hg,?_,h2⟩,h.2⟩
      rw[h1,← boolOK_ok hG h.1]; exact hs
     ·simp at h
   ·simp at h
  ·exact gblocksOK_mem hG hs hX h.2 i b hm
theorem groupsOK_mem (hG:G.Ok E) {H:AHeap}{X:Tr (SB × AB)}(hX:∀ j x,X.get j=some x→∃ g ∈ H.gs,g.1=x.1∧(j,x.2) ∈ g.2):∀ {gs:List (SB × List (Nat × AB))},groupsOK G σ H X gs=true→∀ g ∈ gs,g.1.den (inst σ E)=true→∀ i b,(i,b) ∈ g.2→∃ j c,σ.ids.get i=some j∧H.has E j c∧blkOK G σ b c=true
 | [],_,g,hg,_,_,_,_=>by simp at hg
 | (s,l)::r,h,g,hg,hs,i,b,hm=>by
  simp only[groupsOK,Bool.and_eq_true] at h
  rcases List.mem_cons.1 hg with rfl | hg
  ·have h:=h.1
   split at h
   ·rename_i hk
    have:=SB.knowG_ok hG hk
    rw[substB_den hG] at this
    rw[this] at hs; simp at hs
   ·rw[Bool.or_eq_true] at h
    rcases h with h | h
    ·exact gblocksOK_mem hG hs hX h i b hm
    ·split at h
     ·rename_i t hk
      have:=SB.know_ok hG hk
      rw[substB_den hG] at this
      rw[this] at hs; subst hs; simp at h
     ·simp at h
  ·exact groupsOK_mem hG hX h.2 g hg hs i b hm
theorem filterMap_inj {f:Nat→Option Nat}:∀ {l:List Nat},(l.filterMap f).Nodup→∀ i ∈ l,∀ j ∈ l,∀ k,f i=some k→f j=some k→i=j
 | [],_,i,hi,_,_,_,_,_=>by simp at hi
 | x::xs,h,i,hi,j,hj,k,h1,h2=>by
  have mem:∀ y ∈ xs,f y=some k→k ∈ xs.filterMap f:=fun y hy hk=>List.mem_filterMap.2 ⟨y,hy,hk⟩
  rcases List.mem_cons.1 hi with ei | gi <;> rcases List.mem_cons.1 hj with ej | gj
  ·rw[ei,ej]
  ·subst ei
   rw[List.filterMap_cons,h1] at h
   exact absurd (mem j gj h2) (List.nodup_cons.1 h).1
  ·subst ej
   rw[List.filterMap_cons,h2] at h
   exact absurd (mem i gi h1) (List.nodup_cons.1 h).1
  ·rw[List.filterMap_cons] at h
   split at h
   ·exact filterMap_inj h i gi j gj k h1 h2
   ·exact filterMap_inj (List.nodup_cons.1 h).2 i gi j gj k h1 h2
theorem inst_heap (hG:G.Ok E) {t:Tmpl}(ht:t.ok=true) {H:AHeap}(h1:blocksOK G σ H t.blocks=true) (h2:groupsOK G σ H (idxG .nil H.gs) t.groups=true) (h3:ownIds σ t.ids=true) (hn:σ.next=t.next)
  (hl:(t.loops.map fun i=>(t.heap.get i).bind AB.lctl)=(t.loops.map fun i=>((σ.ids.get i).bind H.get).bind AB.lctl)) (h:HRel E H w) :
  HRel (inst σ E) t.heap w∧∀ a,Live (inst σ E) t.heap a→Live E H a:=by
 simp only[Tmpl.ok,Bool.and_eq_true] at ht
 obtain⟨⟨t1,t2⟩,t3⟩:=ht
 have hnd:=nodupB_ok t1
 have hlt:∀ i ∈ t.ids,i<t.next:=fun i hi=>by
  have:=List.all_eq_true.1 t2 i hi
  simpa [natBlt] using this
 have hnd3:=nodupB_ok h3
 have key:∀ i b,t.heap.has (inst σ E) i b→∃ j c,σ.ids.get i=some j∧H.has E j c∧blkOK G σ b c=true∧b.lctl=c.lctl∧i ∈ t.ids:=by
  rintro i b (hb | ⟨g,hg,hs,hm⟩)
  ·have hb':(AHeap.lay .nil t.blocks).get i=some b:=hb
   rcases lay_get _ _ _ _ hb' with hx | hx
   ·simp [Tr.get_nil] at hx
   ·obtain⟨j,c,k1,k2,k3⟩:=blocksOK_mem h1 i b hx
    refine⟨j,c,k1,.inl k2,k3,?_,List.mem_append.2 (.inl (List.mem_map.2 ⟨(i,b),hx,rfl⟩))⟩
    by_cases hloop:i ∈ t.loops
    ·have:=List.map_inj_left.1 hl i hloop
     rw[hb,k1] at this
     simp only[Option.bind_some,k2] at this
     exact this
    ·cases b with
     | loop=>exact absurd (by unfold Tmpl.loops; exact List.mem_filterMap.2 ⟨_,hx,rfl⟩) hloop
     | _=>cases c <;> first | rfl | (simp [blkOK] at k3; done)
  ·obtain⟨j,c,k1,k2,k3⟩:=groupsOK_mem hG (fun j x hx=>by rcases idxG_get hx with h | h; (· simp [Tr.get] at h); exact h) h2 g hg hs i b hm
   refine⟨j,c,k1,k2,k3,?_,List.mem_append.2 (.inr (mem_gids hg hm))⟩
   have h4:=List.all_eq_true.1 (List.all_eq_true.1 t3 g hg) (i,b) hm
   cases b with
   | loop=>simp at h4
   | _=>cases c <;> first | rfl | (simp [blkOK] at k3; done)
 have hloc:∀ i ∈ t.ids,∀ j,σ.ids.get i=some j→(inst σ E).loc i=E.loc j∧(inst σ E).cap i=E.cap j:=fun i hi j hj=>by
  have:=hlt i hi
  simp [inst,hn,this,hj]
 refine⟨⟨fun i b hb=>?_,fun i i' b b' a hb hb' hr l1 l2=>?_,⟨?_,?_,?_⟩,fun i a hi=>?_,fun i hi=>?_⟩,?_⟩
 ·obtain⟨j,c,k1,k2,k3,k4,k5⟩:=key i b hb
  obtain⟨a,o,q1,q2,q3⟩:=h.blkE j c k2
  obtain⟨r1,r2⟩:=hloc i k5 j k1
  exact⟨a,o,by rw[r1]; exact q1,q2,blkOK_ok hG k3 k4 r2 q3⟩
 ·obtain⟨j,c,k1,k2,k3,k4,k5⟩:=key i b hb
  obtain⟨j',c',k1',k2',k3',k4',k5'⟩:=key i' b' hb'
  rw[(hloc i k5 j k1).1] at l1
  rw[(hloc i' k5' j' k1').1] at l2
  have:=h.injE j j' c c' a k2 k2' (hr.imp (blkOK_rw k3) (blkOK_rw k3')) l1 l2
  subst this
  exact filterMap_inj hnd3 i k5 i' k5' j k1 k1'
 ·exact(List.nodup_append.1 hnd).2.1
 ·exact fun i hi=>hlt i (List.mem_append.2 (.inr hi))
 ·intro i hi
  have hni:i ∉ t.blocks.map (·.1):=fun hx=>(List.nodup_append.1 hnd).2.2 i hx i hi rfl
  show (AHeap.lay .nil t.blocks).get i=none
  rw[lay_other _ _ _ hni,Tr.get_nil]
 ·simp only[inst] at hi
  split at hi
  ·simp only[Option.bind_eq_some_iff] at hi
   obtain⟨j,_,hj⟩:=hi
   exact h.lt j a hj
  ·simp at hi
 ·have hi':t.next≤i:=hi
  simp only[inst]
  rw[if_neg (by omega)]
 ·rintro a ⟨i,b,hb,hr,ha⟩
  obtain⟨j,c,k1,k2,k3,k4,k5⟩:=key i b hb
  rw[(hloc i k5 j k1).1] at ha
  exact⟨j,c,k2,blkOK_rw k3 hr,ha⟩
theorem isInst_ok (hG:G.Ok E) {t:Tmpl}(ht:t.ok=true) {c:Cfg}{f:Frame}{fs:List Frame}(hn:σ.next=t.next) (h:isInst G σ t c=true) (hc:t.cfg.ctl (t.loops.map some)=c.ctl (t.loops.map σ.ids.get))
  (hM:MRel P S E c f fs w):MRel P S (inst σ E) t.cfg f fs w:=by
 unfold isInst at h
 simp only[Bool.and_eq_true] at h
 obtain⟨⟨⟨⟨⟨h1,h2⟩,h3⟩,h4⟩,h5⟩,h6⟩:=h
 unfold Cfg.ctl at hc
 simp only[Prod.mk.injEq,List.cons.injEq] at hc
 obtain⟨⟨c1,c2⟩,c3⟩:=hc
 have c1':t.fr.ctl=c.fr.ctl:=c1
 have c2':t.callers.map AFrame.ctl=c.callers.map AFrame.ctl:=c2
 have c3':(t.loops.map fun i=>(t.heap.get i).bind AB.lctl)=(t.loops.map fun i=>((σ.ids.get i).bind c.heap.get).bind AB.lctl):=by
  rw[List.map_map,List.map_map] at c3
  exact c3
 obtain⟨k1,k2,k3,k4⟩:=frOK_ok hG h1 c1' hM.top
 obtain⟨q1,q2⟩:=frsOK_ok hG h2 c2' hM.callers
 obtain⟨r1,r2⟩:=inst_heap hG ht h3 h4 h5 hn c3' hM.heap
 refine⟨k1,?_,?_,r1,hM.keep,fun a ha=>hM.live a (r2 a ha),?_⟩
 ·have hr:t.fr.reg=.none:=by
   revert h6
   cases t.fr.reg <;> simp [noReg]
  show TopOK P (inst σ E) w t.fr
  unfold TopOK
  rw[hr]; trivial
 ·show CRelL (inst σ E) t.fr.deferred t.callers fs
  rw[k3]; exact q1
 ·rw[← hM.bot]
  have hfn:∀ (l:List AFrame) (g:AFrame),((l.getLast?).getD g).fn=((l.map AFrame.fn).getLast?).getD g.fn:=by
   intro l g
   rw[List.getLast?_map]
   cases l.getLast? <;> rfl
  show ((t.callers.getLast?).getD t.fr).fn=((c.callers.getLast?).getD c.fr).fn
  rw[hfn,hfn,q2,k4]
end Go.Ev
