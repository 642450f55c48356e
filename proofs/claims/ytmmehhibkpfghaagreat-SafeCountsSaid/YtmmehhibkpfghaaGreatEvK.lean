/- Ev, part K: append, whole. -/
import Derived.Test.YtmmehhibkpfghaaGreatEv1
set_option linter.unusedVariables false
namespace Go.Ev
variable {P:Program} {E:Env} {G:Ctx} {H:AHeap} {w:World}
theorem lenOfA_inv {s:AV}{v:Value}{n:Nat}(hv:VRel E s v) (hn:lenOfA s=some n):∃ base c,v=.slice base n c:=by
 unfold lenOfA at hn
 split at hn
 ·simp at hn; subst hn; simp only[VRel] at hv; subst hv; exact⟨none,0,rfl⟩
 ·simp at hn; subst hn
  simp only[VRel] at hv
  obtain⟨b,_,_,rfl⟩:=hv
  exact⟨_,_,rfl⟩
 ·simp at hn; subst hn; simp only[VRel] at hv; obtain⟨b,_,_,rfl⟩:=hv; exact⟨_,_,rfl⟩
 ·simp at hn; subst hn; simp only[VRel] at hv; obtain⟨a,c,_,rfl⟩:=hv; exact⟨_,_,rfl⟩
 ·simp at hn
theorem EffOK.grown (hH:HRel E H w) {cs:List AV}{vs rest:List Value}{e:TypeId}{size cap:Nat}(h:VRelL E cs vs) (hc:cap*size≤(vs++rest).length) :
  EffOK E H w (E.ext H.next w.heap.size cap) (H.new (.opn cs e size)) (w.drew.alloc (.cells (vs++rest).toArray e)):=by
 have hle:E.le (E.ext H.next w.heap.size cap):=Env.le_ext (hH.fresh _ (Nat.le_refl _))
 have:=EffOK.new (w:=w.drew) (hH.drawn _) cap (b:=.opn cs e size) (o:=.cells (vs++rest).toArray e (0,0)) ⟨vs,rest,h.le hle,rfl,by simpa [Env.ext] using hc⟩
 exact⟨this.le,this.rel,⟨this.kept.os,this.kept.tape,this.kept.output,this.kept.size,this.kept.block⟩,this.live,rfl⟩
theorem VRel.slack_mk {id b skip size len cap:Nat}(hb:E.loc id=some b) (hc:E.cap id=cap) (hl:skip+len≤cap) :
  VRel E (.slack id skip size len) (.slice (some ⟨b,skip*size,none⟩) len (cap-skip)):=by
 simp only[VRel]; exact⟨b,hb,by omega,by rw[hc]⟩
theorem loadN_len {b:AB}:∀ {n off:Nat}{l:List AV},loadN H b off n=some l→l.length=n:=by
 intro n
 induction n with
 | zero=>intro off l h; simp [loadN] at h; subst h; rfl
 | succ n ih =>
  intro off l h
  simp only[loadN] at h
  split at h
  ·split at h
   ·rename_i r hr
    simp at h; subst h
    simp [ih hr]
   ·simp at h
  ·simp at h
theorem sliceCells_len {size n:Nat}{s:AV}{l:List AV}(hn:lenOfA s=some n) (h:sliceCells H size s=some l):l.length=n*size:=by
 unfold sliceCells at h
 split at h
 ·simp at h; subst h; simp [lenOfA] at hn; subst hn; simp
 ·simp [lenOfA] at hn; subst hn
  split at h
  ·exact loadN_len h
  ·simp at h
 ·simp [lenOfA] at hn; subst hn
  split at h
  ·split at h
   ·exact loadN_len h
   ·simp at h
  ·simp at h
 ·simp at h; subst h; simp [lenOfA] at hn; subst hn; simp
 ·simp at h
theorem moved_new (hH:HRel E H w) {id:Nat}{b0 b:AB}(hb0:H.get id=some b0) {v:AV}{s:Sem Value}(h:OutV P E H w (.eff v (H.new b)) s):OutV P E H w (.eff v (H.moved id b)) s:=by
 obtain⟨E1,w1,v1,k1,k2,k3⟩:=h
 have sub:∀ j bk,(H.moved id b).has E1 j bk→(H.new b).has E1 j bk:=by
  intro j bk hj
  rcases hj with hj | hj
  ·refine .inl ?_
   rw[get_moved] at hj
   rw[get_new]
   split at hj
   ·rename_i ej; rw[if_pos ej]; exact hj
   ·rename_i ej
    rw[if_neg ej]
    split at hj
    ·simp at hj
    ·exact hj
  ·exact .inr hj
 exact⟨E1,w1,v1,⟨k1.le,HRel.sub sub (hH.sepS.moved id b) rfl k1.rel,k1.kept,fun a ha=>k1.live a (Live.sub sub ha),rfl⟩,k2,k3⟩
theorem noRoom_ok {s:AV}{v:Value}(h:noRoom s=true) (hv:VRel E s v):∃ base,v=.slice base 0 0:=by
 unfold noRoom at h
 split at h
 ·simp only[VRel] at hv; exact⟨none,hv⟩
 ·simp only[VRel] at hv; obtain⟨a,c,hc,rfl⟩:=hv; rw[hc trivial]; exact⟨_,rfl⟩
 ·simp only[VRel] at hv; obtain⟨b,_,_,rfl⟩:=hv; exact⟨_,by simp [SI.den]; rfl⟩
 ·simp at h
theorem cellsLoad {vs:Array Value}{b o:Nat}{e:TypeId}{fz:Nat × Nat}:∀ (m i:Nat) (acc:Array Value) (w:World),w.heap[b]?=some (.cells vs e fz)→o+i+m≤vs.size →
  (loadCellsFrom ⟨b,o,none⟩ i m acc).run P w=.ok (acc++(vs.extract (o+i) (o+i+m))) w
 | 0,i,acc,w,_,_=>by
  have:vs.extract (o+i) (o+i+0)=#[]:=by simp; omega
  rw[this]; simp [loadCellsFrom]
 | m+1,i,acc,w,hw,h=>by
  have hlt:o+i<vs.size:=by omega
  have hc:w.cell? ⟨b,o+i,none⟩=some vs[o+i]:=by simp [World.cell?,hw,hlt]
  have:=cellsLoad (vs:=vs) (b:=b) (o:=o) (e:=e) (fz:=fz) m (i+1) (acc.push vs[o+i]) w hw (by omega)
  simp only[loadCellsFrom,add_none,Sem.run_bind,run_load,hc,Result.andThen_ok]
  rw[this]
  congr 1
  apply Array.ext
  ·simp; omega
  ·intro j j1 j2
   simp only[Array.size_append,Array.size_push,Array.size_extract] at j1 j2
   by_cases h1:j<acc.size
   ·rw[Array.getElem_append_left (by simp; omega),Array.getElem_append_left h1,Array.getElem_push_lt h1]
   ·by_cases h2:j=acc.size
    ·subst h2
     rw[Array.getElem_append_left (by simp),Array.getElem_append_right (by simp)]
     simp
    ·rw[Array.getElem_append_right (by simp; omega),Array.getElem_append_right (by omega)]
     simp only[Array.getElem_extract,Array.size_push]
     congr 1; omega
theorem appendRow_V (hH:HRel E H w) (hG:G.Ok E) {argTypes:Array TypeId}{st xt e e2 ty:TypeId}{i:TypeInfo}{zv:Value}{id b m:Nat}{len:SI}{new:List AV}{nv:List Value}{xv:Value}
  (h1:argTypes[0]?=some st) (h2:argTypes[1]?=some xt) (u1:P.underlying st=some (.slice e)) (u2:P.underlying xt=some (.slice e2)) (hi:P.info? e=some i) (hz:i.zero=some zv) (hzc:zv.cells.size=i.size)
  (hb:i.bytes≠0) (hb2:i.bytes≤4096) (hbl:E.loc id=some b) (hl0:0≤len.den E) (hlc:len.den E≤E.cap id) (hnv:VRelL E new nv) (hnvl:nv.length=m*i.size)
  (hlen:(Builtin.lenOf xv).run P w=.ok m w) (hfn:∀ w':World,w'.heap=w.heap→(Builtin.firstCells i.size m xv).run P w'=.ok nv.toArray w') :
  OutV P E H w (appendRow G H e i.size m id len new) (Builtin.append_ argTypes ty #[.slice (some ⟨b,0,none⟩) (len.den E).toNat (E.cap id),xv]):=by
 unfold appendRow
 split
 case h_2=>trivial
 rename_i a n pat e' r hopen hr
 split
 case isFalse=>trivial
 rename_i hc
 obtain⟨hnl,rfl,hps,hrm,hm0⟩:=hc
 have hnl:=hnl.symm
 subst hnl
 split
 case h_2=>rename_i ho; exact OutV.inr (rowVals_inr ho) _
 rename_i xs hxs
 obtain⟨k1,k2,k3,k4⟩:=rowVals_ok hG hxs hnv
 obtain⟨L,hL⟩:=nat_of (E:=E) _ hl0
 have hrg:=SI.range_ok hG hr
 have hbig:L+m≤1048576:=by omega
 obtain⟨b',o,q1,q2,vs,fz,e2,rfl,hfz,hrow,_,hopn⟩:=hH.blk id _ hopen
 have eb:b'=b:=by rw[hbl] at q1; simpa using q1.symm
 subst eb
 obtain⟨rfl,he2⟩:=hfz rfl
 have q2:w.heap[b']?=some (.cells vs e' (0,0)):=by rw[← he2]; exact q2
 have hcap:=hopn rfl
 rw[repPat_len] at k1 k2
 have hsize:(len.den E).toNat*pat.length≤vs.size:=hrow.2.1
 rw[hL] at hsize hlc ⊢
 simp only[Int.toNat_natCast] at hsize ⊢
 have hlc:L≤E.cap id:=by omega
 -- the old cells and what lies behind them
 have hsplit:vs=(vs.toList.take (L*pat.length)++vs.toList.drop (L*pat.length)).toArray:=by simp
 have hAl:(vs.toList.take (L*pat.length)).length=L*pat.length:=by simp [hsize]
 generalize hA:vs.toList.take (L*pat.length)=A at hsplit hAl
 generalize hR:vs.toList.drop (L*pat.length)=R at hsplit
 have hl':(mkMul len (.lit pat.length)).den E=((L*pat.length:Nat):Int):=by rw[mkMul_den,hL]; simp [SI.den]
 have hn':(mkAdd len (.lit m)).den E=((L+m:Nat):Int):=by rw[mkAdd_den,hL]; simp [SI.den]
 have hrow':∀ R',Row E (updMany a (mkMul len (.lit pat.length)) xs) (mkAdd len (.lit m)) pat (A++nv++R').toArray:=by
  intro R'
  rw[hsplit] at hrow
  refine Row.append (R0:=R) hrow hL hn' hAl (by rw[k2]) (fun j hj=>?_) (fun q hq=>?_)
  ·rw[updMany_cells hl',if_neg (by omega)]
  ·have hg:=repPat_get pat m q hq
   have hqm:q<(repPat pat m).length:=by rw[repPat_len]; exact hq
   obtain⟨x,x1,x2⟩:=k3 q _ (List.getElem?_eq_getElem hqm)
   refine⟨(repPat pat m)[q],by rw[← hg]; exact List.getElem?_eq_getElem hqm,?_⟩
   rw[x2,updMany_cells hl',if_pos (by omega)]
   have:L*pat.length+q-L*pat.length=q:=by omega
   rw[this,x1]
 rw[← hps]
 by_cases hle:L+m≤E.cap id
 ·-- in its place
  have hroom:nv.length≤R.length:=by
   have h3:(L+m)*pat.length≤E.cap id*pat.length:=Nat.mul_le_mul_right _ hle
   rw[Nat.add_mul] at h3
   have h4:vs.size=A.length+R.length:=by rw[hsplit]; simp
   rw[k2]; omega
  rw[hsplit] at q2
  obtain⟨w',hrun,p1,p2,p3,p4,p5,p6⟩:=storeSpare (P:=P) (off:=L*pat.length) nv A R w 0 (by omega) q2 hroom k4
  have hle':E.le (E.ext H.next b' (E.cap id)):=Env.le_ext (hH.fresh _ (Nat.le_refl _))
  have hlive:Live E H b':=⟨id,_,.inl hopen,rfl,hbl⟩
  have hbr:BRel (E.ext H.next b' (E.cap id)) H.next (.row .opn (updMany a (mkMul len (.lit pat.length)) xs) (mkAdd len (.lit m)) pat e') (.cells (A++nv++R.drop nv.length).toArray e' (0,0)):=by
   refine⟨_,(0,0),_,rfl,fun _=>⟨rfl,rfl⟩,(hrow' _).le hle',fun h=>by simp at h,fun _=>?_⟩
   simp only[Env.ext,if_pos]
   have h4:vs.size=A.length+R.length:=by rw[hsplit]; simp
   simp only[List.size_toArray,List.length_append,List.length_drop]
   omega
  obtain⟨hM,hMl⟩:=hH.moved (w':=w') (cap:=E.cap id) hopen rfl hbl p2 p1 p3 hbr
  refine⟨E.ext H.next b' (E.cap id),w',.slice (some ⟨b',0,none⟩) (L+m) (E.cap id),⟨hle',hM,⟨p4,p5,p6,by omega,fun k _ hnl=>p3 k (fun ek=>hnl (by rw[ek]; exact hlive))⟩,fun a ha=>.inl (hMl a ha),rfl⟩,?_,?_⟩
  ·simp only[VRel]
   refine⟨b',by simp [Env.ext],?_,?_,?_⟩
   ·rw[SI.den_le hle',hn']; omega
   ·rw[SI.den_le hle',hn']; simp [Env.ext]; omega
   ·rw[SI.den_le hle',hn']; simp [Env.ext]; omega
  ·refine append_fits (ty:=ty) (w':=w') h1 h2 u1 u2 (by simp [sizeB,hi]) hlen (hfn w rfl) hle (fun a ha=>?_) (fun h=>by simp at h)
   simp at ha; subst ha
   rw[add_none]
   rw[← hps]
   simpa using hrun
 ·-- a new one
  refine moved_new hH hopen ?_
  have hlc':A.toArray=vs.extract 0 (0+L*i.size):=by
   rw[← hA,← hps]; apply Array.toList_inj.1; simp
  have hold:(Builtin.firstCells i.size L (.slice (some ⟨b',0,none⟩) L (E.cap id))).run P w.drew=.ok A.toArray w.drew:=by
   have:=cellsLoad (P:=P) (o:=0) (b:=b') (e:=e') (fz:=(0,0)) (L*i.size) 0 #[] w.drew q2 (by rw[← hps]; omega)
   simp only[Builtin.firstCells,loadCells]
   rw[this,hlc']
   simp
  obtain⟨c',rest,hc',hrest,hrun⟩:=append_grows (ty:=ty) h1 h2 u1 u2 hi hz hb hb2 hbig hlen (hfn w.drew rfl) hold (by omega)
  have ha:A.toArray++nv.toArray++rest=(A++nv++rest.toList).toArray:=by simp
  rw[ha] at hrun
  have hle:E.le (E.ext H.next w.heap.size c'):=Env.le_ext (hH.fresh _ (Nat.le_refl _))
  have hnew:=EffOK.new (w:=w.drew) (hH.drawn _) c' (b:=.row .opn (updMany a (mkMul len (.lit pat.length)) xs) (mkAdd len (.lit m)) pat e') (o:=.cells (A++nv++rest.toList).toArray e' (0,0))
   ⟨_,(0,0),_,rfl,fun _=>⟨rfl,rfl⟩,(hrow' _).le hle,fun h=>by simp at h,fun _=>by
    simp only[Env.ext,if_pos,List.size_toArray,List.length_append,Array.length_toList,hrest,hzc,hAl,k2,← hps,← Nat.add_mul]
    exact Nat.mul_le_mul_right _ (by omega)⟩
  refine⟨_,_,_,⟨hnew.le,hnew.rel,⟨hnew.kept.os,hnew.kept.tape,hnew.kept.output,hnew.kept.size,hnew.kept.block⟩,hnew.live,rfl⟩,?_,hrun⟩
  simp only[VRel]
  refine⟨w.heap.size,by simp [Env.ext],?_,?_,?_⟩
  ·have:(mkAdd len (.lit m)).den (E.ext H.next w.heap.size c')=(mkAdd len (.lit m)).den E:=SI.den_le hle _
   show 0≤(mkAdd len (.lit m)).den (E.ext H.next w.heap.size c')
   rw[this,hn']; omega
  ·have:(mkAdd len (.lit m)).den (E.ext H.next w.heap.size c')=(mkAdd len (.lit m)).den E:=SI.den_le hle _
   show (mkAdd len (.lit m)).den (E.ext H.next w.heap.size c')≤_
   rw[this,hn']; simp [Env.ext]; omega
  ·have:(mkAdd len (.lit m)).den (E.ext H.next w.heap.size c')=(mkAdd len (.lit m)).den E:=SI.den_le hle _
   show _=Value.slice _ ((mkAdd len (.lit m)).den (E.ext H.next w.heap.size c')).toNat _
   rw[this,hn']; simp [Env.ext]; omega
theorem cloneRow_V (hH:HRel E H w) (hG:G.Ok E) {argTypes:Array TypeId}{st xt e e2 ty:TypeId}{i:TypeInfo}{zv:Value}{id b cap:Nat}{off len:SI}{s:AV}{sv:Value}
  (h1:argTypes[0]?=some st) (h2:argTypes[1]?=some xt) (u1:P.underlying st=some (.slice e)) (u2:P.underlying xt=some (.slice e2)) (hi:P.info? e=some i) (hz:i.zero=some zv) (hzc:zv.cells.size=i.size)
  (hb:i.bytes≠0) (hb2:i.bytes≤4096) (hnr:∃ base,sv=.slice base 0 0) (hs:VRel E s sv) (hbl:E.loc id=some b) (ho:0≤off.den E) :
  OutV P E H w (cloneRow G H e i.size s id off len) (Builtin.append_ argTypes ty #[sv,.slice (some ⟨b,(off.den E).toNat,none⟩) (len.den E).toNat cap]):=by
 obtain⟨base,rfl⟩:=hnr
 unfold cloneRow
 split
 case h_2=>trivial
 rename_i md a n pat e' r hget hr
 split
 case h_2=>trivial
 rename_i off' hoff
 split
 case h_2=>trivial
 rename_i j hso
 split
 case isFalse=>trivial
 rename_i hc
 obtain⟨rfl,hps,hs0,hr1,hr2⟩:=hc
 have hrg:=SI.range_ok hG hr
 obtain⟨m,hm⟩:=nat_of (E:=E) len (by omega)
 obtain⟨q,hq⟩:=nat_of (E:=E) off ho
 obtain⟨hso1,hso2⟩:=splitOff_ok (E:=E) hso
 obtain⟨b',o,q1,q2,vs,fz,e3,rfl,hfz,hrowM,_,_⟩:=hH.blk id _ hget
 obtain⟨kb,hrow,hkb⟩:=hrowM.at hoff
 have eb:b'=b:=by rw[hbl] at q1; simpa using q1.symm
 subst eb
 rw[hm,hq]
 simp only[Int.toNat_natCast]
 have hlen:(Builtin.lenOf (.slice (some ⟨b',q,none⟩) m cap)).run P w=.ok m w:=by simp [Builtin.lenOf]
 refine withB_V hG (fun h0=>?_) (fun h0=>withB_V hG (fun _=>trivial) (fun h3=>withB_V hG (fun _=>trivial) (fun h4=>?_)))
 ·rw[mkEql_den hG,hm] at h0
  simp [SI.den] at h0
  subst h0
  refine⟨_,hs,?_⟩
  have:=append_fits (ty:=ty) (base:=base) (n:=0) (c:=0) (x:=.slice (some ⟨b',q,none⟩) 0 cap) (w':=w) h1 h2 u1 u2 (size:=i.size) (by simp [sizeB,hi]) hlen (nv:=#[]) (by simp [Builtin.firstCells,loadCells,loadCellsFrom]) (by omega) (fun a _=>by simp [storeCells]) (fun _=>rfl)
  simpa using this
 ·rw[mkEql_den hG,hm] at h0
  rw[mkLss_den hG] at h3
  have h3:=Int.not_lt.1 (of_decide_eq_false h3)
  simp only[SI.den] at h3
  obtain⟨q',hq'⟩:=nat_of (E:=E) off' h3
  have hqq:q=kb+q':=by omega
  rw[mkLss_den hG,mkMul_den,mkAdd_den,mkMul_den,hm,hq'] at h4
  have h4:=Int.not_lt.1 (of_decide_eq_false h4)
  simp [SI.den] at h0 h4
  obtain⟨N,hN⟩:=nat_of (E:=E) n hrow.1
  rw[hN] at h4
  have h4':q'+m*i.size≤N*i.size:=by
   have:((q'+m*i.size:Nat):Int)≤((N*i.size:Nat):Int):=by push_cast; exact h4
   omega
  have hm0:0<m*i.size:=Nat.mul_pos (by omega) (Nat.pos_of_ne_zero hs0)
  have hsz':N*i.size≤vs.size-kb:=by have:=hrow.2.1; rw[hN,hps] at this; simpa using this
  have h4:q+m*i.size≤vs.size:=by omega
  have hsz:vs.size≤vs.size:=Nat.le_refl _
  have hfn:∀ w':World,w'.heap=w.heap→(Builtin.firstCells i.size m (.slice (some ⟨b',q,none⟩) m cap)).run P w'=.ok (vs.extract q (q+m*i.size)) w':=by
   intro w' hw'
   have:=cellsLoad (P:=P) (o:=q) (b:=b') (e:=e3) (fz:=fz) (m*i.size) 0 #[] w' (by rw[hw']; exact q2) (by omega)
   simp only[Builtin.firstCells,loadCells]
   rw[this]; simp
  have hold:(Builtin.firstCells i.size 0 (.slice base 0 0)).run P w.drew=.ok #[] w.drew:=by
   cases base <;> simp [Builtin.firstCells,loadCells,loadCellsFrom]
  obtain⟨c',rest,hc',hrest,hrun⟩:=append_grows (ty:=ty) h1 h2 u1 u2 hi hz hb hb2 (by omega:0+m≤1048576) hlen (hfn w.drew rfl) hold (by omega)
  have hle:E.le (E.ext H.next w.heap.size c'):=Env.le_ext (hH.fresh _ (Nat.le_refl _))
  have hes:(vs.extract q (q+m*i.size)).size=m*i.size:=by simp; omega
  have hcells:∀ k:Nat,(if off'=.lit 0 then a else .app (.con 0) (.lit 0) a off':SI).cells E (k:Int)=a.cells E ((q'+k:Nat):Int):=by
   intro k
   by_cases he:off'=.lit 0
   ·subst he
    have hq0:q'=0:=by simp only[SI.den] at hq'; omega
    rw[if_pos rfl,hq0]; simp
   ·rw[if_neg he]
    simp only[SI.cells,SI.den,hq']
    rw[if_neg (by omega)]
    congr 1; push_cast; omega
  have hrow2:Row E (if off'=.lit 0 then a else .app (.con 0) (.lit 0) a off') len pat ((#[]:Array Value)++vs.extract q (q+m*i.size)++rest):=by
   refine⟨by omega,?_,fun k hk=>?_⟩
   ·rw[hm,hps]; simp; omega
   ·rw[hm,hps] at hk
    simp only[Int.toNat_natCast] at hk
    obtain⟨ck,c1,c2⟩:=hrow.2.2 (q'+k) (by rw[hN,hps]; simp only[Int.toNat_natCast]; omega)
    have hjn:∃ j':Nat,q'=j'*i.size:=by
     have hi0:0<i.size:=Nat.pos_of_ne_zero hs0
     rw[hq'] at hso1
     have hj0:0≤j.den E:=by
      refine Decidable.byContradiction fun hneg=>?_
      have:j.den E*(i.size:Int)<0:=Int.mul_neg_of_neg_of_pos (by omega) (by omega)
      omega
     obtain⟨j',hj'⟩:=nat_of (E:=E) j hj0
     rw[hj'] at hso1
     refine⟨j',?_⟩
     have:((q':Nat):Int)=((j'*i.size:Nat):Int):=by rw[hso1]; push_cast; simp
     omega
    obtain⟨j',hj'⟩:=hjn
    refine⟨ck,?_,?_⟩
    ·rw[hps] at c1 ⊢
     rw[hj',Nat.add_comm,Nat.add_mul_mod_self_right] at c1
     exact c1
    ·rw[hcells]
     rw[Array.getElem?_append_left (by simp; omega)]
     simp only[Array.empty_append]
     rw[Array.getElem?_extract,if_pos (by omega)]
     rw[hqq,Nat.add_assoc]; exact extract_at c2
  have hnew:=EffOK.new (w:=w.drew) (hH.drawn _) c' (b:=.row .opn (if off'=.lit 0 then a else .app (.con 0) (.lit 0) a off') len pat e') (o:=.cells ((#[]:Array Value)++vs.extract q (q+m*i.size)++rest) e' (0,0))
   ⟨_,(0,0),_,rfl,fun _=>⟨rfl,rfl⟩,hrow2.le hle,fun h=>by simp at h,fun _=>by
    simp only[Env.ext,if_pos,Array.size_append,Array.size_empty,hrest,hzc,hes,hps,Nat.zero_add,← Nat.add_mul]
    exact Nat.mul_le_mul_right _ (by omega)⟩
  refine⟨_,_,_,⟨hnew.le,hnew.rel,⟨hnew.kept.os,hnew.kept.tape,hnew.kept.output,hnew.kept.size,hnew.kept.block⟩,hnew.live,rfl⟩,?_,hrun⟩
  simp only[VRel]
  have hd:len.den (E.ext H.next w.heap.size c')=((m:Nat):Int):=(SI.den_le hle _).trans hm
  refine⟨w.heap.size,by simp [Env.ext],?_,?_,?_⟩
  ·show 0≤len.den (E.ext H.next w.heap.size c')
   rw[hd]; omega
  ·show len.den (E.ext H.next w.heap.size c')≤_
   rw[hd]; simp [Env.ext]; omega
  ·show _=Value.slice _ (len.den (E.ext H.next w.heap.size c')).toNat _
   rw[hd]; simp [Env.ext]
theorem append_V (hH:HRel E H w) (hG:G.Ok E) {argTypes:Array TypeId}{args:List AV}{vs:List Value}{ty:TypeId}(hv:VRelL E args vs) :
  OutV P E H w (appendA P G H argTypes args) (Builtin.append_ argTypes ty vs.toArray):=by
 unfold appendA
 split
 case h_2=>trivial
 rename_i st xt s x h1 h2
 simp only[VRelL] at hv
 obtain⟨sv,_,hs,⟨xv,_,hx,rfl,rfl⟩,rfl⟩:=hv
 split
 case h_2=>trivial
 rename_i e e2 u1 u2
 split
 case h_2=>trivial
 rename_i i hi
 split
 case h_4=>trivial
 case h_2 =>
  rename_i m _ hm
  split
  case h_2=>trivial
  rename_i id size' len new hnew _
  split
  ·trivial
  rename_i hcond
  have hb:i.bytes≠0:=fun h=>hcond (.inl h)
  have hb2:i.bytes≤4096:=Nat.not_lt.1 fun h=>hcond (.inr (.inl h))
  have hzs:i.zero.map (·.cells.size)=some i.size:=Decidable.not_not.1 fun h=>hcond (.inr (.inr (.inl h)))
  have hsz':size'=i.size:=Decidable.not_not.1 fun h=>hcond (.inr (.inr (.inr h)))
  obtain⟨zv,hz,hzc⟩:∃ zv,i.zero=some zv∧zv.cells.size=i.size:=by
   cases h:i.zero with
   | none=>simp [h] at hzs
   | some z=>exact⟨z,rfl,by simpa [h] using hzs⟩
  obtain⟨nv,hnv,hfn,hlen⟩:=sliceCells_ok (P:=P) hH hx hm hnew
  have hnvl:nv.length=m*i.size:=by rw[hnv.length]; exact sliceCells_len hm hnew
  simp only[VRel] at hs
  obtain⟨b,hbl,hl0,hlc,rfl⟩:=hs
  split
  ·rename_i hm0
   subst hm0
   have hnv0:nv=[]:=List.eq_nil_of_length_eq_zero (by simpa using hnvl)
   subst hnv0
   refine⟨_,by simp only[VRel]; exact⟨b,hbl,hl0,hlc,rfl⟩,by simpa using append_fits (ty:=ty) h1 h2 u1 u2 (by simp [sizeB,hi]) hlen (hfn w rfl) (by omega) (fun a _=>by simp [storeCells]) (fun _=>rfl)⟩
  ·exact appendRow_V (ty:=ty) hH hG h1 h2 u1 u2 hi hz hzc hb hb2 hbl hl0 hlc hnv hnvl hlen hfn
 case h_3 =>
  split
  ·trivial
  rename_i hcond
  have hb:i.bytes≠0:=fun h=>hcond (.inl h)
  have hb2:i.bytes≤4096:=Nat.not_lt.1 fun h=>hcond (.inr (.inl h))
  have hzs:i.zero.map (·.cells.size)=some i.size:=Decidable.not_not.1 fun h=>hcond (.inr (.inr (.inl h)))
  have hroom:noRoom s=true:=by
   cases h:noRoom s with
   | true=>rfl
   | false=>exact absurd (.inr (.inr (.inr h))) hcond
  obtain⟨zv,hz,hzc⟩:∃ zv,i.zero=some zv∧zv.cells.size=i.size:=by
   cases h:i.zero with
   | none=>simp [h] at hzs
   | some z=>exact⟨z,rfl,by simpa [h] using hzs⟩
  have hnr:=noRoom_ok hroom hs
  split
  ·rename_i id size' len
   split
   case isFalse=>trivial
   simp only[VRel] at hx
   obtain⟨b,hbl,hl0,hlc,rfl⟩:=hx
   exact cloneRow_V (ty:=ty) hH hG h1 h2 u1 u2 hi hz hzc hb hb2 hnr hs hbl (by simp [SI.den])
  ·rename_i id off len cap
   simp only[VRel] at hx
   obtain⟨b,hbl,ho,rfl⟩:=hx
   exact cloneRow_V (ty:=ty) hH hG h1 h2 u1 u2 hi hz hzc hb hb2 hnr hs hbl ho
  ·trivial
 rename_i n m hn hm
 split
 case h_2=>trivial
 rename_i old new hold hnew
 split
 ·trivial
 rename_i hcond
 have hb:i.bytes≠0:=fun h=>hcond (.inl h)
 have hb2:i.bytes≤4096:=Nat.not_lt.1 fun h=>hcond (.inr (.inl h))
 have hbig:n+m≤1048576:=Nat.not_lt.1 fun h=>hcond (.inr (.inr (.inl h)))
 have hzs:i.zero.map (·.cells.size)=some i.size:=Decidable.not_not.1 fun h=>hcond (.inr (.inr (.inr (.inl h))))
 have hone:new.all AV.one=true:=by
  rcases Bool.eq_false_or_eq_true (new.all AV.one) with h | h
  ·exact h
  ·exact absurd h fun h=>hcond (.inr (.inr (.inr (.inr h))))
 obtain⟨zv,hz,hzc⟩:∃ zv,i.zero=some zv∧zv.cells.size=i.size:=by
  cases h:i.zero with
  | none=>simp [h] at hzs
  | some z=>exact⟨z,rfl,by simpa [h] using hzs⟩
 have hsz:sizeB P e=some i.size:=by simp [sizeB,hi]
 obtain⟨base,c,rfl⟩:=lenOfA_inv hs hn
 obtain⟨ov,hov,hfo,_⟩:=sliceCells_ok (P:=P) hH hs hn hold
 obtain⟨nv,hnv,hfn,hlen⟩:=sliceCells_ok (P:=P) hH hx hm hnew
 have hovl:ov.length=n*i.size:=by rw[hov.length]; exact sliceCells_len hn hold
 have hnvl:nv.length=m*i.size:=by rw[hnv.length]; exact sliceCells_len hm hnew
 have hones:=all_one hnv hone
 have hfw:=hfn w rfl
 have grown:∀ (hlt:c<n+m),OutV P E H w (.eff (.slack H.next 0 i.size (n+m)) (H.new (.opn (old++new) e i.size))) (Builtin.append_ argTypes ty #[.slice base n c,xv]):=by
  intro hlt
  obtain⟨c',rest,hc',hrest,hrun⟩:=append_grows (ty:=ty) h1 h2 u1 u2 hi hz hb hb2 hbig hlen (hfn w.drew rfl) (hfo w.drew rfl) hlt
  have ha:ov.toArray++nv.toArray++rest=(ov++nv++rest.toList).toArray:=by simp
  rw[ha] at hrun
  have hlen':c'*i.size≤(ov++nv++rest.toList).length:=by
   simp only[List.length_append,Array.length_toList,hovl,hnvl,hrest,hzc,← Nat.add_mul]
   exact Nat.mul_le_mul_right _ (by omega)
  refine⟨_,_,_,EffOK.grown hH (hov.append hnv) hlen',?_,hrun⟩
  have:=VRel.slack_mk (E:=E.ext H.next w.heap.size c') (id:=H.next) (b:=w.heap.size) (skip:=0) (size:=i.size) (len:=n+m) (cap:=c') (by simp [Env.ext]) (by simp [Env.ext]) (by omega)
  simpa using this
 split
 ·-- nothing is added
  rename_i hm0
  subst hm0
  have hnv0:nv=[]:=List.eq_nil_of_length_eq_zero (by simpa using hnvl)
  subst hnv0
  have fits:∀ (hle:n≤c),OutV P E H w (.val s) (Builtin.append_ argTypes ty #[.slice base n c,xv]):=by
   intro hle
   exact⟨_,hs,by simpa using append_fits (ty:=ty) h1 h2 u1 u2 hsz hlen hfw (by omega) (fun a _=>by simp [storeCells]) (fun _=>rfl)⟩
  split
  ·rename_i cap
   split
   ·rename_i hle
    refine fits ?_
    simp only[VRel] at hs
    obtain⟨b,_,_,hs⟩:=hs
    simp [SI.den] at hs
    omega
   ·trivial
  ·trivial
  ·rename_i q1 q2
   refine fits ?_
   cases s <;> try (simp [lenOfA] at hn; done)
   ·simp only[VRel] at hs; simp at hs; omega
   ·exact absurd rfl (q2 _ _ _ _)
   ·simp only[VRel] at hs
    obtain⟨b,_,hle,hs⟩:=hs
    simp at hs; omega
   ·simp only[VRel] at hs
    obtain⟨a,c1,_,hs⟩:=hs
    simp at hs; omega
 ·rename_i hm0
  simp only
  split
  ·-- nil
   simp only[VRel] at hs
   simp at hs
   exact grown (by omega)
  ·-- empty
   simp only[VRel] at hs
   obtain⟨a,c1,hc1,hs⟩:=hs
   simp at hs hc1
   exact grown (by omega)
  ·-- a slice whose capacity is known
   rename_i id off len' cap
   simp only[VRel] at hs
   obtain⟨b,hbl,ho,hs⟩:=hs
   simp [SI.den] at hs
   obtain⟨rfl,hn',hc'⟩:=hs
   split
   ·rename_i hle
    split
    case h_2=>trivial
    rename_i ab hab
    split
    case h_2=>trivial
    rename_i ab' hrw0 hab'
    obtain⟨w',hrun,hH',hK⟩:=storeN_ok (P:=P) (H:=H) hbl new nv (off+n*i.size) 0 ab ab' w H hH (fun _ _=>rfl) rfl hab hrw0 hnv (by simpa using hab')
    refine⟨E,w',_,⟨Env.le.refl E,hH',hK,fun k hk=>.inl (Live.upd hH hab hrw0 hk),rfl⟩,?_,append_fits (ty:=ty) (w':=w') h1 h2 u1 u2 hsz hlen hfw (by omega) (fun a ha=>?_) (fun h=>by simp at h)⟩
    ·rw[hc']
     exact VRel.slice_mk hbl (by simp [SI.den]) (by simp [SI.den]; omega) (by simp [SI.den])
    ·simp at ha; subst ha
     rw[add_none]; simpa using hrun
   ·rename_i hle
    exact grown (by omega)
  ·-- slack
   rename_i id size0 len0
   split
   case h_2=>trivial
   rename_i cs e' size' hopen
   split
   case isFalse=>trivial
   rename_i hc3
   obtain⟨hcl,he,hsz'⟩:=hc3
   simp only[VRel] at hs
   obtain⟨b,hbl,hle0,hs⟩:=hs
   simp at hs
   obtain⟨hbase,hn',hc'⟩:=hs
   have hcs:cs=old:=by
    simp only[sliceCells] at hold
    split at hold
    ·rw[hopen] at hold
     simp only[Nat.zero_mul] at hold
     rw[← hn',loadN_open (n*i.size) 0 (by omega)] at hold
     simpa using hold
    ·simp at hold
   by_cases hle:n+m≤c
   ·obtain⟨b',o,k1,k2,k3⟩:=hH.blk id _ hopen
    have eb:b'=b:=by rw[hbl] at k1; simpa using k1.symm
    subst eb
    obtain⟨vs0,rest0,hvs0,rfl,hcap⟩:=k3
    have hl0:vs0.length=n*i.size:=by rw[hvs0.length,hcl]
    have hroom:nv.length≤rest0.length:=by
     have:(n+m)*i.size≤c*i.size:=Nat.mul_le_mul_right _ hle
     rw[Nat.add_mul] at this
     rw[hsz',← hc'] at hcap
     simp only[List.length_append] at hcap
     omega
    obtain⟨w',hrun,q1,q2,q3,q4,q5,q6⟩:=storeSpare (P:=P) (off:=n*i.size) nv vs0 rest0 w 0 (by omega) k2 hroom hones
    have hle':E.le (E.ext H.next b' (E.cap id)):=Env.le_ext (hH.fresh _ (Nat.le_refl _))
    have hlive:Live E H b':=⟨id,_,.inl hopen,rfl,hbl⟩
    have hbr:BRel (E.ext H.next b' (E.cap id)) H.next (.opn (old++new) e i.size) (.cells (vs0++nv++rest0.drop nv.length).toArray e (0,0)):=by
     refine⟨vs0++nv,rest0.drop nv.length,?_,rfl,?_⟩
     ·rw[← hcs]; exact(hvs0.append hnv).le hle'
     ·simp only[Env.ext,if_pos]
      rw[hsz'] at hcap
      simp only[List.length_append,List.length_drop] at hcap ⊢
      omega
    rw[he] at q1
    obtain⟨hM,hMl⟩:=hH.moved (w':=w') (cap:=E.cap id) hopen rfl hbl q2 q1 q3 hbr
    refine⟨E.ext H.next b' (E.cap id),w',.slice base (n+m) c,⟨hle',hM,⟨q4,q5,q6,by omega,fun k _ hnl=>q3 k (fun ek=>hnl (by rw[ek]; exact hlive))⟩,fun a ha=>.inl (hMl a ha),rfl⟩,?_,?_⟩
    ·have:=VRel.slack_mk (E:=E.ext H.next b' (E.cap id)) (id:=H.next) (b:=b') (skip:=0) (size:=i.size) (len:=n+m) (cap:=E.cap id) (by simp [Env.ext]) (by simp [Env.ext]) (by omega)
     rw[hbase,hc']
     simpa using this
    ·refine append_fits (ty:=ty) (w':=w') h1 h2 u1 u2 hsz hlen hfw hle (fun a ha=>?_) (fun h=>by rw[hbase] at h; simp at h)
     rw[hbase] at ha
     simp at ha; subst ha
     rw[add_none]; simpa using hrun
   ·obtain⟨E1,w1,v1,k1,k2,k3⟩:=grown (by omega)
    exact moved_new hH hopen ⟨E1,w1,v1,k1,k2,k3⟩
  ·trivial
end Go.Ev
