/- Ev, part N: every operation of the evaluator is the model's. -/
import Derived.Test.YtmmehhibkpfghaaGreatEvM
import Derived.Laws.StructEq
import Derived.Laws.LoneSync
set_option linter.unusedVariables false
namespace Go.Ev
variable {P:Program} {E:Env} {G:Ctx} {H:AHeap} {w:World}
theorem num_ok {ev:Operand→AV}{ρ:Operand→Value}{o:Option Operand}{r:Option SI}(h:∀ p,o=some p→VRel E (ev p) (ρ p))
  (hr:numA ev o=some r):numRel E r (o.map ρ):=by
 cases o with
 | none=>simp [numA] at hr; subst hr; rfl
 | some p =>
  simp only[numA] at hr
  have hp:=h p rfl
  split at hr
  ·rename_i k n hk
   simp at hr; subst hr
   rw[hk] at hp
   exact⟨k,by simp [VRel.int_inv hp]⟩
  ·simp at hr
theorem num_lit (hG:G.Ok E) {r:Option SI}{v:Option Value}(h:numRel E r v):numRel E (r.map (litK G)) v:=by
 cases r with
 | none=>exact h
 | some n=>obtain⟨k,hk⟩:=h; exact⟨k,by rw[hk,litK_den hG]⟩
theorem buildSlice_run {t e:TypeId}{len n:Nat}{pv:Array (Nat × Value)}{zv:Value}{ov:Array Value}(hu:P.underlying t=some (.slice e)) (hs:sizeB P e=some (n+1))
  (hz:∀ w,(zeroValue e).run P w=.ok zv w) (hzs:zv.cells.size=n+1) (hbig:len*(n+1)≤65536)
  (hf:Instr.fill (fun i=>some (i*(n+1),n+1)) ((Array.range (len*(n+1))).map (fun i=>zv.cells[i % (n+1)]!)) pv.toList=some ov) :
  (Instr.buildSlice t len pv).run P w=.ok (.slice (some ⟨w.heap.size,0,none⟩) len len) { w with heap:=w.heap.push (.cells ov e) }:=by
 have hb:¬ (len*(n+1) > 2 ^ 24):=by omega
 by_cases h0:len*(n+1)=0
 ·have e0:(Array.range (len*(n+1))).map (fun i=>zv.cells[i % (n+1)]!)=#[]:=Array.eq_empty_of_size_eq_zero (by simp [h0])
  have e1:(Array.range (len*(n+1))).map (fun i=>(#[]:Array Value)[i % (#[]:Array Value).size]!)=#[]:=Array.eq_empty_of_size_eq_zero (by simp [h0])
  rw[e0] at hf
  simp only[Instr.buildSlice,Sem.run_bind,underlying_ok hu,Result.andThen_ok,sizeB_ok hs,if_neg hb,Sem.run_pure,if_pos h0,e1,hf,newRow,run_newObj]
 ·simp only[Instr.buildSlice,Sem.run_bind,underlying_ok hu,Result.andThen_ok,sizeB_ok hs,if_neg hb,Sem.run_pure,if_neg h0,hz,hzs,hf,newRow,run_newObj]
theorem buildSlice_V (hH:HRel E H w) {ev:Operand→AV}{ρ:Operand→Value}{t:TypeId}{len:Nat}{parts:Array (Nat × Operand)}(hp:∀ p ∈ parts.toList,VRel E (ev p.2) (ρ p.2)) :
  OutV P E H w (buildSliceA P H t len (parts.toList.map fun p=>(p.1,ev p.2))) (Instr.buildSlice t len (parts.map fun (i,x)=>(i,ρ x))):=by
 unfold buildSliceA
 split
 ·rename_i e hu
  split
  ·rename_i n z hsz hz
   split
   ·rename_i hc
    split
    ·rename_i cs hfill
     obtain⟨zv,hzr,hzrun⟩:=zeroB_ok (E:=E) hz
     have hzc:=AV.cells_ok hzr (zeroB_notRaw hz)
     have hzs:zv.cells.size=n+1:=by rw[← hc.2,← hzc.length]; simp
     have hrep:=repeatL_ok hzc len
     rw[hzs] at hrep
     obtain⟨ov,hov,hrel⟩:=fill_ok (E:=E) (pv:=(parts.map fun (i,x)=>(i,ρ x)).toList) (by simp) (by simpa using parts_ok hp) hrep hfill
     have hle:E.le (E.ext H.next w.heap.size 0):=Env.le_ext (hH.fresh _ (Nat.le_refl _))
     exact⟨_,_,.slice (some ⟨w.heap.size,0,none⟩) len len,EffOK.new hH 0 (o:=.cells ov e (0,0)) ⟨ov.toList,hrel.le hle,by simp⟩,VRel.slice_mk (b:=w.heap.size) (by simp [Env.ext]) rfl rfl rfl,
      buildSlice_run hu hsz hzrun hzs hc.1 hov⟩
    ·trivial
   ·trivial
  ·trivial
 ·trivial
set_option maxHeartbeats 1000000 in
theorem set_obj {H:AHeap}(hH:HRel E H w) {id a:Nat}{b b':AB}{o':Obj}(hb:H.get id=some b) (ha:E.loc id=some a) (hbr:BRel E id b' o') (hw:b.rw=true:=by rfl) :
  EffOK E H w E (H.upd id b') { w with heap:=w.heap.setIfInBounds a o' }:=by
 have hlt:=hH.lt id a ha
 refine⟨Env.le.refl E,hH.upd hb hw ha (by simp) ⟨o',by simp [hlt],hbr⟩ (fun k hk=>by simp only; rw[Array.getElem?_setIfInBounds_ne (fun e=>hk e.symm)]),?_,fun x hx=>.inl (Live.upd hH hb hw hx),rfl⟩
 exact⟨rfl,rfl,rfl,by simp,fun k hk hn=>by simp only; rw[Array.getElem?_setIfInBounds_ne (fun e=>hn (by rw[← e]; exact⟨id,b,.inl hb,hw,ha⟩))]⟩
theorem EffOK.refl {H:AHeap}(hH:HRel E H w):EffOK E H w E H w:=⟨Env.le.refl E,hH,Kept.refl _ _ _,fun _ hl=>.inl hl,rfl⟩
theorem zeroValue_ok {t:TypeId}{z:AV}(h:zeroB P t=some z):∃ zv,(zeroValue t).run P w=.ok zv w∧VRel E z zv:=by
 unfold zeroB at h
 simp only[Option.bind_eq_some_iff] at h
 obtain⟨zv,⟨i,hi,hz⟩,hc⟩:=h
 exact⟨zv,by simp [zeroValue,typeInfo,hi,hz],ofConst_ok hc⟩
theorem select_OK (hH:HRel E H w) (hG:G.Ok E) {c:AV}{snd:Option AV}{elem:TypeId}{cv:Value}{sv:Option Value}{σ:Sem Next}(hc:VRel E c cv)
  (hs:match snd,sv with | none,none=>True | some x,some y=>VRel E x y | _,_=>False)
  (hσ:∀ z,(zeroValue elem).run P w=.ok z w→σ.run P w=.ok (.comm #[{ chan:=cv,send:=sv,zero:=z }] false .select) w):OutOK P E H w (selectA P G H c snd elem) σ:=by
 unfold selectA
 split
 ·rename_i id z hz
  simp only[VRel] at hc
  obtain⟨b,hb,rfl⟩:=hc
  obtain⟨zv,hzr,hzv⟩:=zeroValue_ok (w:=w) (E:=E) hz
  have hrun:=hσ zv hzr
  split
  ·trivial
  ·rename_i cap buf hgot
   obtain⟨_,us,s,r,hget,hw,hus,hob⟩:=chanGet_ok hH hG hb hgot
   cases snd with
   | none =>
    cases sv with
    | some y=>exact hs.elim
    | none =>
     cases buf with
     | nil =>
      simp only[VRelL] at hus
      subst hus
      refine⟨E,w,EffOK.refl hH,.inr (.inr ⟨.tuple #[goInt (-1),.bool false,zv],?_,_,_,_,hrun,fun f cs es hst=>?_⟩)⟩
      ·simp only[VRel]; exact⟨_,VRelL.cons (VRel.int_mk _ rfl) (VRelL.cons (VRel.bool_mk rfl) (VRelL.cons hzv VRelL.nil)),rfl⟩
      ·exact Conc.step_lone_select_default hst hob
     | cons v rest =>
      simp only[VRelL] at hus
      obtain⟨u,ur,hu,hur,rfl⟩:=hus
      have heff:=set_obj (b':=.chan cap rest) (o':=.chan cap ((u::ur).toArray.extract 1 (u::ur).toArray.size) false s (r+1) false) hH hget hb ⟨ur,s,r+1,hur,by simp⟩ hw
      refine⟨E,_,heff,.inr (.inr ⟨.tuple #[goInt 0,.bool true,(u::ur).toArray.getD 0 undef],?_,_,_,_,hrun,fun f cs es hst=>?_⟩)⟩
      ·simp only[VRel]; exact⟨_,VRelL.cons (VRel.int_mk _ rfl) (VRelL.cons (VRel.bool_mk rfl) (VRelL.cons (by simpa using hu) VRelL.nil)),rfl⟩
      ·exact Conc.step_lone_select_recv_buf hst hob (by simp)
   | some x =>
    cases sv with
    | none=>exact hs.elim
    | some y =>
     simp only
     split
     ·trivial
     ·split
      ·rename_i hlt
       have hl:=hus.length
       have heff:=set_obj (b':=.chan cap (buf++[x])) (o':=.chan cap (us.toArray.push y) false (s+1) r false) hH hget hb ⟨us++[y],s+1,r,hus.append (VRelL.cons hs VRelL.nil),by simp⟩ hw
       refine⟨E,_,heff,.inr (.inr ⟨.tuple #[goInt 0,.bool false],?_,_,_,_,hrun,fun f cs es hst=>?_⟩)⟩
       ·simp only[VRel]; exact⟨_,VRelL.cons (VRel.int_mk _ rfl) (VRelL.cons (VRel.bool_mk rfl) VRelL.nil),rfl⟩
       ·exact Conc.step_lone_select_send_room hst hob (by simpa [hl] using hlt)
      ·rename_i hlt
       have hl:=hus.length
       refine⟨E,w,EffOK.refl hH,.inr (.inr ⟨.tuple #[goInt (-1),.bool false],?_,_,_,_,hrun,fun f cs es hst=>?_⟩)⟩
       ·simp only[VRel]; exact⟨_,VRelL.cons (VRel.int_mk _ rfl) (VRelL.cons (VRel.bool_mk rfl) VRelL.nil),rfl⟩
       ·exact Conc.step_lone_select_send_full hst hob (by simp [hl] at hlt ⊢; omega)
  ·trivial
 ·trivial
theorem recv_OK (hH:HRel E H w) (hG:G.Ok E) {c:AV}{t:TypeId}{ok:Bool}{cv:Value}{σ:Sem Next}(hc:VRel E c cv)
  (hσ:∀ d e z,P.underlying t=some (.chan d e)→(zeroValue e).run P w=.ok z w→σ.run P w=.ok (.comm #[{ chan:=cv,send:=none,zero:=z }] true (.recv ok)) w):OutOK P E H w (recvA P G H t c ok) σ:=by
 unfold recvA
 split
 ·rename_i d e hu
  split
  ·rename_i id z hz
   simp only[VRel] at hc
   obtain⟨b,hb,rfl⟩:=hc
   obtain⟨zv,hzr,hzv⟩:=zeroValue_ok (w:=w) (E:=E) hz
   have hrun:=hσ d e zv hu hzr
   split
   ·trivial
   ·rename_i cap v rest hgot
    obtain⟨_,us,s,r,hget,hw,hus,hob⟩:=chanGet_ok hH hG hb hgot
    simp only[VRelL] at hus
    obtain⟨u,ur,hu',hur,rfl⟩:=hus
    have heff:=set_obj (b':=.chan cap rest) (o':=.chan cap ((u::ur).toArray.extract 1 (u::ur).toArray.size) false s (r+1) false) hH hget hb ⟨ur,s,r+1,hur,by simp⟩ hw
    refine⟨E,_,heff,.inr (.inr ⟨Conc.got ok ((u::ur).toArray.getD 0 undef) true,?_,_,_,_,hrun,fun f cs es hst=>?_⟩)⟩
    ·cases ok with
     | false=>simpa [Conc.got] using hu'
     | true =>
      simp only[VRel,if_true,Conc.got]
      exact⟨_,VRelL.cons (by simpa using hu') (VRelL.cons (VRel.bool_mk rfl) VRelL.nil),rfl⟩
    ·exact Conc.step_lone_recv_buf ok hst hob (by simp)
   ·trivial
  ·trivial
 ·trivial
theorem makeChan_V (hH:HRel E H w) {t:TypeId}{n:AV}{nv:Value}(hn:VRel E n nv):OutV P E H w (makeChanA P H t n) (Instr.makeChan t nv):=by
 unfold makeChanA
 split
 ·rename_i d e k n hu
  have hn:=VRel.int_inv hn
  simp only[SI.den] at hn
  split
  ·rename_i i hi
   split
   ·rename_i hc
    have hE:=EffOK.new hH 0 (b:=.chan n []) (o:=.chan n #[] false 0 0 false) ⟨[],0,0,VRelL.nil,rfl⟩
    refine⟨_,_,.chan (some w.heap.size),hE,by simp only[VRel]; exact⟨w.heap.size,by simp [Env.ext],rfl⟩,?_⟩
    obtain⟨h1,h2⟩:=hc
    have h3:¬ ((n:Int)<0∨(n:Int) > IntKind.i64.max∨(i.bytes:Int)*(n:Int) > 2 ^ 48-112):=by
     intro h
     rcases h with h | h | h
     ·omega
     ·omega
     ·have h4:((i.bytes*n:Nat):Int)≤((2 ^ 48-112:Nat):Int):=Int.ofNat_le.2 h2
      have h5:((i.bytes*n:Nat):Int)=(i.bytes:Int)*(n:Int):=Int.natCast_mul _ _
      have h6:((2 ^ 48-112:Nat):Int)=(2:Int) ^ 48-112:=by decide
      rw[h5,h6] at h4
      exact absurd h4 (Int.not_le.2 h)
    have hti:(typeInfo e).run P w=.ok i w:=by simp [typeInfo,hi]
    have hai:(asInt nv).run P w=.ok (n:Int) w:=by rw[hn]; simp [asInt,asIntOf]
    simp only[Instr.makeChan,Sem.run_bind,hai,Result.andThen_ok,underlying_ok hu,hti,if_neg h3,Sem.run_pure,run_newObj,Int.toNat_natCast]
   ·trivial
  ·trivial
 ·trivial
theorem run_setObj_ok {P:Program}{w:World}{a:Nat}{o o':Obj}(h:w.heap[a]?=some o) (hn:∀ c e z,o≠.cells c e z) :
  (setObj a o').run P w=.ok () { w with heap:=w.heap.setIfInBounds a o' }:=by
 simp only[setObj,Sem.run,h]
theorem find_Q {Q:AOut→Prop}(hG:G.Ok E) (hq1:∀ s,Q (.fork s)) (hq2:∀ s,Q (.fail s)) {kk k:IntKind}{n:SI}{found:AV→AOut}{none_:AOut}:∀ {es:List (AV × AV)}{l:List MapEntry}{i:Nat},ERelL E es l →
  (∀ v v' j,VRel E v v'→Instr.findNow (.int kk) (.int k (n.den E)) l i=some (some (j,v'))→Q (found v))→(Instr.findNow (.int kk) (.int k (n.den E)) l i=some none→Q none_)→Q (findA G k n found none_ es)
 | [],l,i,hl,_,h2=>by
  simp only[ERelL] at hl; subst hl
  exact h2 rfl
 | (key,v)::es,l,i,hl,h1,h2=>by
  obtain⟨e,r,hk,hv,hr,rfl⟩:=hl
  unfold findA
  split
  ·rename_i he; simp at he
  ·rename_i k' m v0 r0 he
   simp at he
   obtain⟨⟨rfl,rfl⟩,rfl⟩:=he
   split
   ·rename_i hkk
    subst hkk
    have hk:=VRel.int_inv hk
    have key:∀ {yes no:AOut},((mkEql G n m).den E=true→Q yes)→((mkEql G n m).den E=false→Q no)→Q (withB G (mkEql G n m) yes no):=by
     intro yes no hy hn
     unfold withB
     split
     ·rename_i h; exact hy (SB.know_ok hG h)
     ·rename_i h; exact hn (SB.know_ok hG h)
     ·exact hq1 _
    refine key (fun h=>?_) (fun h=>?_)
    ·rw[mkEql_den hG] at h
     exact h1 v e.val i hv (by simp [Instr.findNow,hk,Instr.sameNow,h])
    ·rw[mkEql_den hG] at h
     refine find_Q (kk:=kk) hG hq1 hq2 (i:=i+1) hr (fun v v' j hvv hf=>h1 v v' j hvv ?_) (fun hf=>h2 ?_)
     ·simp [Instr.findNow,hk,Instr.sameNow,h]; exact hf
     ·simp [Instr.findNow,hk,Instr.sameNow,h]; exact hf
   ·exact hq2 _
  ·exact hq2 _
theorem partV_ok {t:TypeId}{cs:List AV}{vs:List Value}{off:Nat}{x:AV}(hv:VRelL E cs vs) (h:partV P t cs off=some x):∃ u,VRel E x u∧(part t vs.toArray off).run P w=.ok u w:=by
 unfold partV at h
 split at h
 ·rename_i ha
  split at h
  ·rename_i n hn
   simp at h; subst h
   refine⟨.agg ((vs.drop off).take n).toArray,by simp only[VRel]; exact⟨_,(hv.drop off).take n,rfl⟩,?_⟩
   simp [part,isAggB_ok ha,sizeB_ok hn]
  ·simp at h
 ·rename_i ha
  obtain⟨u,hu,hr⟩:=hv.get h
  exact⟨u,hr,by simp [part,isAggB_ok ha,hu]⟩
 ·simp at h
theorem eqFields_ok {d:Nat}{eq:TypeId→AV→AV→Bool ⊕ AOut}(heq:∀ t x y u v b,eq t x y=.inl b→VRel E x u→VRel E y v→(Op.equalIn d t u v).run P w=.ok b w) {xs ys:List AV}{us vs:List Value}(hx:VRelL E xs us) (hy:VRelL E ys vs) :
  ∀ {fs:List Field} {b:Bool},eqFieldsA P eq xs ys fs=.inl b→(Op.eqFields d us.toArray vs.toArray fs).run P w=.ok b w
 | [],b,h=>by simp [eqFieldsA] at h; subst h; simp [Op.eqFields]
 | f::fs,b,h=>by
  unfold eqFieldsA at h
  unfold Op.eqFields
  split at h
  ·rename_i hn
   rw[if_pos hn]
   split at h
   ·rename_i a c ha hc
    obtain⟨u,hu,ru⟩:=partV_ok (w:=w) hx ha
    obtain⟨v,hv,rv⟩:=partV_ok (w:=w) hy hc
    simp only[Sem.run_bind,ru,rv,Result.andThen_ok]
    split at h
    ·rename_i he
     rw[heq _ _ _ _ _ _ he hu hv]
     simp only[Result.andThen_ok,Bool.not_true,Bool.false_eq_true,if_false]
     exact eqFields_ok heq hx hy h
    ·rename_i he
     rw[heq _ _ _ _ _ _ he hu hv]
     simp at h; subst h
     simp
    ·simp at h
   ·simp at h
  ·rename_i hn
   rw[if_neg hn]
   exact eqFields_ok heq hx hy h
theorem eqDeep_ok (hG:G.Ok E) (m:Nat):∀ (d:Nat) (t:TypeId) (x y:AV) (u v:Value) (b:Bool),eqDeepA P G d t x y=.inl b→VRel E x u→VRel E y v→(Op.equalIn (d+m) t u v).run P w=.ok b w
 | 0,t,x,y,u,v,b,h,_,_=>by simp [eqDeepA] at h
 | d+1,t,x,y,u,v,b,h,hx,hy=>by
  have e:d+1+m=(d+m)+1:=by omega
  rw[e]
  unfold eqDeepA at h
  split at h
  ·rename_i k0 k a k' c hu
   have hx:=VRel.int_inv hx
   have hy:=VRel.int_inv hy
   split at h
   ·rename_i hk; subst hk
    split at h
    ·rename_i r hr
     simp at h; subst h
     have:=SB.know_ok hG hr
     rw[mkEql_den hG] at this
     rw[hx,hy,run_equalIn_int w _ t k k0 _ _ hu,this]
    ·simp at h
   ·simp at h
  ·rename_i a c hu
   simp only[VRel] at hx hy
   split at h
   ·rename_i r hr
    simp at h; subst h
    have:=SB.know_ok hG hr
    rw[mkIff_den] at this
    rw[hx,hy,run_equalIn_bool' w _ t _ _ hu,this]
   ·simp at h
  ·rename_i fs xs ys hu
   split at h
   ·simp at h
   ·rename_i hst
    simp only[VRel] at hx hy
    obtain⟨us,hus,rfl⟩:=hx
    obtain⟨vs,hvs,rfl⟩:=hy
    have hf:P.fieldsOf t=fs:=by simp [Program.fieldsOf,hu]
    rw[run_equalIn_struct w (d+m) t _ _ (by rw[hf]; exact hu) (by simpa using hst),hf]
    exact eqFields_ok (fun t x y u v b h hx hy=>eqDeep_ok hG m d t x y u v b h hx hy) hus hvs h
  ·simp at h
theorem eqFields_inr {eq:TypeId→AV→AV→Bool ⊕ AOut}(heq:∀ t x y o,eq t x y=.inr o→(∃ s,o=.fork s)∨∃ s,o=.fail s) {xs ys:List AV}{o:AOut}:∀ {fs:List Field},eqFieldsA P eq xs ys fs=.inr o→(∃ s,o=.fork s)∨∃ s,o=.fail s
 | [],h=>by simp [eqFieldsA] at h
 | f::fs,h=>by
  unfold eqFieldsA at h
  split at h
  ·split at h
   ·split at h
    ·exact eqFields_inr heq h
    ·simp at h
    ·rename_i ho; simp at h; subst h; exact heq _ _ _ _ ho
   ·simp at h; subst h; exact .inr ⟨_,rfl⟩
  ·exact eqFields_inr heq h
theorem eqDeep_inr:∀ (d:Nat) (t:TypeId) (x y:AV) (o:AOut),eqDeepA P G d t x y=.inr o→(∃ s,o=.fork s)∨∃ s,o=.fail s
 | 0,t,x,y,o,h=>by simp [eqDeepA] at h; subst h; exact .inr ⟨_,rfl⟩
 | d+1,t,x,y,o,h=>by
  unfold eqDeepA at h
  split at h
  ·split at h
   ·split at h
    ·simp at h
    ·simp at h; subst h; exact .inl ⟨_,rfl⟩
   ·simp at h; subst h; exact .inr ⟨_,rfl⟩
  ·split at h
   ·simp at h
   ·simp at h; subst h; exact .inl ⟨_,rfl⟩
  ·split at h
   ·simp at h; subst h; exact .inr ⟨_,rfl⟩
   ·exact eqFields_inr (fun t x y o h=>eqDeep_inr d t x y o h) h
  ·simp at h; subst h; exact .inr ⟨_,rfl⟩
theorem aggEq_V (hG:G.Ok E) {t:TypeId}{x y:Operand}{xs ys:List AV}{us vs:List Value}(hx:VRelL E xs us) (hy:VRelL E ys vs) :
  OutV P E H w (aggEqA P G t (.agg xs) (.agg ys) false) (do eqGuard .eql t x y (.agg us.toArray) (.agg vs.toArray); binOp .eql t (.agg us.toArray) (.agg vs.toArray)) ∧
  OutV P E H w (aggEqA P G t (.agg xs) (.agg ys) true) (do eqGuard .neq t x y (.agg us.toArray) (.agg vs.toArray); binOp .neq t (.agg us.toArray) (.agg vs.toArray)):=by
 have hxv:VRel E (.agg xs) (.agg us.toArray):=by simp only[VRel]; exact⟨us,hx,rfl⟩
 have hyv:VRel E (.agg ys) (.agg vs.toArray):=by simp only[VRel]; exact⟨vs,hy,rfl⟩
 unfold aggEqA
 by_cases hm:P.eqGuardType P.depth t=true
 ·simp only[hm,if_true]; exact⟨trivial,trivial⟩
 ·have hm:P.eqGuardType P.depth t=false:=by simpa using hm
  simp only[hm,Bool.false_eq_true,if_false]
  cases hd:eqDeepA P G 8 t (.agg xs) (.agg ys) with
  | inl b =>
   have hr:=eqDeep_ok (w:=w) hG 9992 8 t _ _ _ _ b hd hxv hyv
   have h1:=run_eql_struct (P:=P) w t us.toArray vs.toArray
   have h2:=run_neq_struct (P:=P) w t us.toArray vs.toArray
   rw[hr] at h1 h2
   refine⟨⟨.bool b,VRel.bool_mk (by simp [SB.den]),?_⟩,⟨.bool (!b),VRel.bool_mk (by cases b <;> rfl),?_⟩⟩
   ·simp only[Sem.run_bind,run_eqGuard_agg w .eql t x y _ _ hm,Result.andThen_ok,h1]
   ·simp only[Sem.run_bind,run_eqGuard_agg w .neq t x y _ _ hm,Result.andThen_ok,h2]
  | inr o=>exact⟨OutV.inr (eqDeep_inr _ _ _ _ _ hd) _,OutV.inr (eqDeep_inr _ _ _ _ _ hd) _⟩
theorem checkKey_int {b:Bool}{m:Nat}{kt:TypeId}{kk k:IntKind}{n:Int}(h:P.underlying kt=some (.int kk)):(Instr.checkKey b (m+1) kt (.int k n)).run P w=.ok () w:=by
 simp [Instr.checkKey,underlying_ok h]
theorem lookup_V (hH:HRel E H w) (hG:G.Ok E) {t:TypeId}{x key:AV}{ok:Bool}{xv kv:Value}(hx:VRel E x xv) (hk:VRel E key kv) :
  OutV P E H w (lookupA P G H t x key ok) (Instr.lookup t xv kv ok):=by
 unfold lookupA
 simp only
 split
 case h_2=>trivial
 rename_i kt et hu
 split
 case h_2=>trivial
 rename_i kk k n z hkt hz
 have hk:=VRel.int_inv hk; subst hk
 obtain⟨zv,hzr,hzrun⟩:=zeroB_ok (E:=E) hz
 have ans:∀ {v:AV} {v':Value} {b:Bool},VRel E v v'→VRel E (if ok then .tuple [v,.bool (.lit b)] else v) (if ok then .tuple #[v',.bool b] else v'):=by
  intro v v' b hv
  cases ok with
  | false=>simpa using hv
  | true =>
   simp only[if_true,VRel]
   exact⟨[v',.bool b],VRelL.cons hv (VRelL.cons (VRel.bool_mk rfl) VRelL.nil),rfl⟩
 have chk:∀ b,(Instr.checkKey b 10000 kt (.int k (n.den E))).run P w=.ok () w:=fun b=>checkKey_int hkt
 split
 ·simp only[VRel] at hx; subst hx
  refine⟨_,ans (b:=false) hzr,?_⟩
  simp [Instr.lookup,underlying_ok hu,chk,Instr.findKey,underlying_ok hkt,Instr.findNow,hzrun]
 ·rename_i id
  simp only[VRel] at hx
  obtain⟨b,hb,rfl⟩:=hx
  split
  case h_2=>trivial
  rename_i es hget
  obtain⟨a,o,h1,h2,l,c,hl,rfl⟩:=hH.blk id _ hget
  have e:a=b:=by rw[hb] at h1; simpa using h1.symm
  subst e
  have hobj:(getObj a).run P w=.ok (.map l.toArray c) w:=by simp [getObj,Sem.run,h2]
  refine find_Q (Q:=fun r=>OutV P E H w r (Instr.lookup t (.map (some a)) (.int k (n.den E)) ok)) (kk:=kk) (i:=0) hG (fun _=>trivial) (fun _=>trivial) hl (fun v v' j hv hf=>?_) (fun hf=>?_)
  ·refine⟨_,ans (b:=true) hv,?_⟩
   simp [Instr.lookup,underlying_ok hu,hobj,chk,Instr.findKey,underlying_ok hkt,hf]
  ·refine⟨_,ans (b:=false) hzr,?_⟩
   simp [Instr.lookup,underlying_ok hu,hobj,chk,Instr.findKey,underlying_ok hkt,hf,hzrun]
 ·trivial
theorem ERelL.append:∀ {a b:List (AV × AV)}{l m:List MapEntry},ERelL E a l→ERelL E b m→ERelL E (a++b) (l++m)
 | [],b,l,m,h,k=>by simp only[ERelL] at h; subst h; exact k
 | x::xs,b,l,m,h,k=>by
  obtain⟨e,r,h1,h2,h3,rfl⟩:=h
  exact⟨e,r++m,h1,h2,ERelL.append h3 k,rfl⟩
theorem mapSet_OK (hH:HRel E H w) (hG:G.Ok E) {t:TypeId}{x key v:AV}{xv kv vv:Value}(hx:VRel E x xv) (hk:VRel E key kv) (hv:VRel E v vv) {s:Sem Next}
  (hs:s=(do Instr.mapUpdate t xv kv vv; pure .skip)):OutOK P E H w (mapSetA P G H t x key v) s:=by
 subst hs
 unfold mapSetA
 split
 case h_2=>trivial
 rename_i kt et hu
 split
 case h_2=>trivial
 rename_i kk k n id hkt
 have hk:=VRel.int_inv hk; subst hk
 simp only[VRel] at hx
 obtain⟨b,hb,rfl⟩:=hx
 split
 case h_2=>trivial
 rename_i es hget
 obtain⟨a,o,h1,h2,l,c,hl,rfl⟩:=hH.blk id _ hget
 have e:a=b:=by rw[hb] at h1; simpa using h1.symm
 subst e
 have hobj:(getObj a).run P w=.ok (.map l.toArray c) w:=by simp [getObj,Sem.run,h2]
 have chk:(Instr.checkKey false 10000 kt (.int k (n.den E))).run P w=.ok () w:=checkKey_int hkt
 refine find_Q (Q:=fun r=>OutOK P E H w r _) (kk:=kk) (i:=0) hG (fun _=>trivial) (fun _=>trivial) hl (fun _ _ _ _ _=>trivial) (fun hf=>?_)
 split
 ·trivial
 ·have heff:=set_obj (b':=.map (es++[(.int k n,v)])) (o':=.map (l.toArray.push { key:=.int k (n.den E),val:=vv,born:=c }) (c+1)) hH hget hb
   ⟨l++[{ key:=.int k (n.den E),val:=vv,born:=c }],c+1,hl.append ⟨_,[],VRel.int_mk k rfl,hv,rfl,rfl⟩,by simp⟩
  refine⟨E,_,heff,.inr (.inl ⟨VRel.undef,?_⟩)⟩
  simp [Instr.mapUpdate,underlying_ok hu,hobj,chk,Instr.findKey,underlying_ok hkt,hf,run_setObj_ok h2 (by simp)]
theorem pinned_ok (hG:G.Ok E) {n:SI}{k:SI→AOut}{s:Sem Next}(h:∀ c,n.den E=c→OutOK P E H w (k (.lit c)) s):OutOK P E H w (pinned G n k) s:=by
 unfold pinned
 split
 ·exact h _ rfl
 ·split
  ·split
   ·split
    ·rename_i c hc; exact h c (pin_ok hG hc)
    ·trivial
    ·trivial
   ·trivial
  ·trivial
theorem opA_ok (hH:HRel E H w) (hG:G.Ok E) {o:Oper}{ev:Operand→AV}{ρ:Operand→Value}(he:∀ x ∈ o.op.operands,VRel E (ev x) (ρ x)) :
  OutOK P E H w (opA P G H ev o.op) (execOp ρ o):=by
 obtain⟨dst,op,ty,pos,after,guard⟩:=o
 simp only at he ⊢
 cases op with
 | move x=>exact⟨ρ x,he x (by simp [Op.operands]),by simp [execOp]⟩
 | assign x=>exact⟨ρ x,he x (by simp [Op.operands]),by simp [execOp]⟩
 | pick c a b =>
  have hc:=he c (by simp [Op.operands])
  have ha:=he a (by simp [Op.operands])
  have hb:=he b (by simp [Op.operands])
  simp only[opA]
  split
  ·rename_i t ht
   rw[ht] at hc
   simp only[VRel] at hc
   have h:OutV P E H w (withB G t (.val (ev a)) (.val (ev b))) (do pure (if ← asBool (ρ c) then ρ a else ρ b)) :=
    withB_V hG (fun h=>⟨ρ a,ha,by simp [hc,asBool,h]⟩) (fun h=>⟨ρ b,hb,by simp [hc,asBool,h]⟩)
   have e2:execOp ρ ⟨dst,.pick c a b,ty,pos,after,guard⟩=(do pure (Next.value (← (do pure (if ← asBool (ρ c) then ρ a else ρ b):Sem Value))):Sem Next):=by simp [execOp]
   rw[e2]; exact OutV.ok h
  ·trivial
 | alloc e =>
  simp only[opA]
  split
  ·rename_i z hz
   obtain⟨zv,hzr,hzrun⟩:=zeroB_ok (E:=E) hz
   have:=OutV.ok (alloc_V (P:=P) (e:=e) hH (AV.cells_ok hzr (zeroB_notRaw hz)))
   have e2:(execOp ρ ⟨dst,.alloc e,ty,pos,after,guard⟩).run P w=(do pure (Next.value (← (do pure (.pointer (some (← newRow e zv.cells))):Sem Value))):Sem Next).run P w:=by
    simp [execOp,Instr.alloc,hzrun,newVar]
   revert this
   simp only[allocA,OutOK,CommTo,e2]; exact id
  ·trivial
 | box e x =>
  have hx:=he x (by simp [Op.operands])
  simp only[opA]
  split
  ·trivial
  ·rename_i hraw
   exact OutV.ok (alloc_V (P:=P) (e:=e) (vs:=(ρ x).cells) hH (AV.cells_ok hx (by simpa using hraw)))
 | build t parts =>
  have hp:∀ p ∈ parts.toList,VRel E (ev p.2) (ρ p.2):=fun p hp=>he p.2 (by simp only[Op.operands]; simp; exact⟨p.1,by simpa using hp⟩)
  simp only[opA]
  split
  ·rename_i zv fs hz hu
   split
   ·rename_i z pl hz2 hpl
    split
    ·rename_i cs hfill
     have hzr:VRel E z zv:=ofConst_ok hz2
     obtain⟨ov,hov,hrel⟩:=fill_ok (E:=E) (by simp) (parts_ok hp) (AV.cells_ok hzr (ofConst_notRaw hz2)) hfill
     simp only[Option.bind_eq_some_iff] at hz
     obtain⟨it,hit,hzz⟩:=hz
     have hb:P.built t (parts.map fun (i,x)=>(i,ρ x)).toList=some ov:=by
      unfold placesA at hpl
      simp only[Program.built,hit,hu,hzz,hpl]
      simpa using hov
     refine OutV.ok (s:=Instr.build t (parts.map fun (i,x)=>(i,ρ x))) (r:=.val (.agg cs)) ⟨.agg ov,?_,run_build w t _ ov hb⟩
     simp only[VRel]; exact⟨ov.toList,hrel,by simp⟩
    ·trivial
   ·trivial
  ·rename_i zv n e hz hu
   split
   ·rename_i z sz hz2 hsz
    split
    ·rename_i cs hfill
     have hzr:VRel E z zv:=ofConst_ok hz2
     obtain⟨ov,hov,hrel⟩:=fill_ok (E:=E) (by simp) (parts_ok hp) (AV.cells_ok hzr (ofConst_notRaw hz2)) hfill
     simp only[Option.bind_eq_some_iff] at hz
     obtain⟨it,hit,hzz⟩:=hz
     obtain⟨ie,hie,rfl⟩:∃ ie,P.info? e=some ie∧ie.size=sz:=by simpa [sizeB] using hsz
     have hb:P.built t (parts.map fun (i,x)=>(i,ρ x)).toList=some ov:=by
      simp only[Program.built,hit,hu,hzz,hie]
      simpa using hov
     refine OutV.ok (s:=Instr.build t (parts.map fun (i,x)=>(i,ρ x))) (r:=.val (.agg cs)) ⟨.agg ov,?_,run_build w t _ ov hb⟩
     simp only[VRel]; exact⟨ov.toList,hrel,by simp⟩
    ·trivial
   ·trivial
  ·trivial
 | buildSlice t len parts =>
  have hp:∀ p ∈ parts.toList,VRel E (ev p.2) (ρ p.2):=fun p hp=>he p.2 (by simp only[Op.operands]; simp; exact⟨p.1,by simpa using hp⟩)
  exact OutV.ok (buildSlice_V hH hp)
 | load t a =>
  have ha:=he a (by simp [Op.operands])
  have row:∀ {id:Nat} {off:SI} {b:Nat} {md:Md} {r n:SI} {pat:List CK} {e:TypeId},H.get id=some (.row md r n pat e)→E.loc id=some b→0≤off.den E→ρ a=.pointer (some ⟨b,(off.den E).toNat,none⟩) →
    OutOK P E H w (loadRowM P G t md r n pat off) (execOp ρ ⟨dst,.load t a,ty,pos,after,guard⟩):=by
   intro id off b md r n pat e hget hb h0 hav
   have:=OutV.ok (loadRow_V (P:=P) (t:=t) hH hG hget hb h0)
   have e2:(execOp ρ ⟨dst,.load t a,ty,pos,after,guard⟩)=(do pure (Next.value (← loadVar t ⟨b,(off.den E).toNat,none⟩)):Sem Next):=by
    simp [execOp,Instr.loadAt,hav,Instr.sureAddr]
   rw[e2]; exact this
  have ros:∀ {id:Nat} {off:SI} {b:Nat} {o n:SI} {cs:List AV} {e:TypeId},H.get id=some (.ros o n cs e)→E.loc id=some b→0≤off.den E→ρ a=.pointer (some ⟨b,(off.den E).toNat,none⟩) →
    OutOK P E H w (loadRos P G t o n cs off) (execOp ρ ⟨dst,.load t a,ty,pos,after,guard⟩):=by
   intro id off b o n cs e hget hb h0 hav
   have:=OutV.ok (loadRos_V (P:=P) (t:=t) hH hG hget hb h0)
   have e2:(execOp ρ ⟨dst,.load t a,ty,pos,after,guard⟩)=(do pure (Next.value (← loadVar t ⟨b,(off.den E).toNat,none⟩)):Sem Next):=by
    simp [execOp,Instr.loadAt,hav,Instr.sureAddr]
   rw[e2]; exact this
  simp only[opA]
  split
  ·rename_i id off hev
   rw[hev] at ha
   simp only[VRel] at ha
   obtain⟨b,hb,h0,ha⟩:=ha
   split
   ·rename_i v hv
    obtain⟨v',hr,hrun⟩:=loadAt_ok (P:=P) hH hb hv
    refine OutV.ok (s:=Instr.loadAt t (ρ a)) (valA_V hG ?_ hr)
    simp [Instr.loadAt,ha,Instr.sureAddr,SI.den,hrun]
   ·split
    ·rename_i md r n pat e hget
     exact row (off:=.lit off) hget hb (by simp [SI.den]) ha
    ·rename_i o n cs e hget
     exact ros (off:=.lit off) hget hb (by simp [SI.den]) ha
    ·trivial
  ·rename_i id off hno hev
   rw[hev] at ha
   simp only[VRel] at ha
   obtain⟨b,hb,h0,ha⟩:=ha
   split
   ·rename_i md r n pat e hget
    exact row hget hb h0 ha
   ·rename_i o n cs e hget
    exact ros hget hb h0 ha
   ·trivial
  ·trivial
 | store t a x =>
  have ha:=he a (by simp [Op.operands])
  have hx:=he x (by simp [Op.operands])
  have row:∀ {id:Nat} {off:SI} {b:Nat} {md:Md} {r n:SI} {pat:List CK} {e:TypeId},H.get id=some (.row md r n pat e)→E.loc id=some b→0≤off.den E→ρ a=.pointer (some ⟨b,(off.den E).toNat,none⟩) →
    OutOK P E H w (storeRow P G H t id md r n pat e off (ev x)) (execOp ρ ⟨dst,.store t a x,ty,pos,after,guard⟩):=by
   intro id off b md r n pat e hget hb h0 hav
   refine storeRow_OK (P:=P) (t:=t) hH hG hget hb h0 hx (fun w' hw'=>?_)
   simp [execOp,Instr.storeAt,hav,Instr.sureAddr,hw']
  simp only[opA]
  split
  ·rename_i id off hev
   rw[hev] at ha
   simp only[VRel] at ha
   obtain⟨b,hb,h0,ha⟩:=ha
   split
   ·trivial
   ·rename_i hraw
    split
    ·rename_i H' hs
     obtain⟨w',hrun,hH',hK,hL,_⟩:=storeAt_ok (P:=P) hH hb hx (by simpa using hraw) hs
     refine⟨E,w',⟨Env.le.refl E,hH',hK,fun k hk=>.inl (hL k hk),rfl⟩,.inr (.inl ⟨VRel.undef,?_⟩)⟩
     simp [execOp,Instr.storeAt,ha,Instr.sureAddr,SI.den,hrun]
    ·split
     ·rename_i md r n pat e hget
      exact row (off:=.lit off) hget hb (by simp [SI.den]) ha
     ·trivial
  ·rename_i id off hno hev
   rw[hev] at ha
   simp only[VRel] at ha
   obtain⟨b,hb,h0,ha⟩:=ha
   split
   ·rename_i md r n pat e hget
    exact row hget hb h0 ha
   ·trivial
  ·trivial
 | nilCheck x =>
  have hx:=he x (by simp [Op.operands])
  simp only[opA]
  split
  ·rename_i id off hev
   rw[hev] at hx
   have hx':=hx
   simp only[VRel] at hx
   obtain⟨b,_,_,hx⟩:=hx
   exact⟨ρ x,hx',by simp [execOp,hx]⟩
  ·rename_i t v hev
   rw[hev] at hx
   have hx':=hx
   simp only[VRel] at hx
   obtain⟨b,_,hx⟩:=hx
   exact⟨ρ x,hx',by simp [execOp,hx]⟩
  ·rename_i f a b hev
   rw[hev] at hx
   have hx':=hx
   simp only[VRel] at hx
   obtain⟨_,_,_,_,_,hx⟩:=hx
   exact⟨ρ x,hx',by simp [execOp,hx]⟩
  ·rename_i l hev
   rw[hev] at hx
   have hx':=hx
   simp only[VRel] at hx
   obtain⟨_,_,hx⟩:=hx
   exact⟨ρ x,hx',by simp [execOp,hx]⟩
  ·trivial
 | binOp o t x y yt =>
  have hx:=he x (by simp [Op.operands])
  have hy:=he y (by simp [Op.operands])
  simp only[opA]
  split
  ·rename_i k a k' b hxe hye
   rw[hxe] at hx; rw[hye] at hy
   have hx:=VRel.int_inv hx
   have hy:=VRel.int_inv hy
   have hg:(eqGuard o t x y (ρ x) (ρ y)).run P w=.ok () w:=eqGuard_ok (by rw[hx]; simp) (by rw[hx]; simp)
   have fin:∀ {r:AOut},OutV P E H w r (binOp o t (.int k (a.den E)) (.int k' (b.den E)))→OutOK P E H w r (execOp ρ ⟨dst,.binOp o t x y yt,ty,pos,after,guard⟩):=by
    intro r hr
    refine OutV.ok (s:=do eqGuard o t x y (ρ x) (ρ y); binOp o t (ρ x) (ρ y)) ?_
    revert hr
    have e:(do eqGuard o t x y (ρ x) (ρ y); binOp o t (ρ x) (ρ y):Sem Value).run P w=(binOp o t (.int k (a.den E)) (.int k' (b.den E))).run P w:=by
     rw[hx,hy] at hg
     simp [hg,hx,hy]
    cases r <;> simp only[OutV,e] <;> exact id
   split
   ·exact fin (pinned_V hG fun c hc=>by have:=shift_V hG (P:=P) (E:=E) (H:=H) (w:=w) (o:=.shl) (.inl rfl) (k:=k) (k':=k') (a:=a) (b:=.lit c) t; simpa only[SI.den,hc] using this)
   ·exact fin (pinned_V hG fun c hc=>by have:=shift_V hG (P:=P) (E:=E) (H:=H) (w:=w) (o:=.shr) (.inr rfl) (k:=k) (k':=k') (a:=a) (b:=.lit c) t; simpa only[SI.den,hc] using this)
   ·split
    ·rename_i hk; subst hk; exact fin (arith_V hG t)
    ·trivial
  ·rename_i us vs hxe hye
   rw[hxe] at hx; rw[hye] at hy
   simp only[VRel] at hx hy
   obtain⟨xu,hxu,hx⟩:=hx
   obtain⟨yv,hyv,hy⟩:=hy
   obtain⟨h1,h2⟩:=aggEq_V (P:=P) (H:=H) (w:=w) (t:=t) (x:=x) (y:=y) hG hxu hyv
   split
   ·have e2:execOp ρ ⟨dst,.binOp .eql t x y yt,ty,pos,after,guard⟩=(do pure (Next.value (← (do eqGuard .eql t x y (.agg xu.toArray) (.agg yv.toArray); binOp .eql t (.agg xu.toArray) (.agg yv.toArray):Sem Value))):Sem Next):=by
     simp only[execOp,hx,hy]
    rw[e2]; exact OutV.ok h1
   ·have e2:execOp ρ ⟨dst,.binOp .neq t x y yt,ty,pos,after,guard⟩=(do pure (Next.value (← (do eqGuard .neq t x y (.agg xu.toArray) (.agg yv.toArray); binOp .neq t (.agg xu.toArray) (.agg yv.toArray):Sem Value))):Sem Next):=by
     simp only[execOp,hx,hy]
    rw[e2]; exact OutV.ok h2
   ·trivial
  ·split
   ·split
    ·rename_i s hs
     obtain⟨h1,h2,h3,h4,h5,h6,h7⟩:=eqlI_ok (P:=P) hH hy hG hx hs
     refine OutV.ok (s:=do eqGuard .eql t x y (ρ x) (ρ y); binOp .eql t (ρ x) (ρ y)) (r:=.val (.bool s)) ⟨_,VRel.bool_mk rfl,?_⟩
     simp [eqGuard_ok (P:=P) (w:=w) (op:=.eql) (t:=t) h2 h3,(binOp_other h1 h4 h5 h6 h7).1]
    ·trivial
   ·split
    ·rename_i s hs
     obtain⟨h1,h2,h3,h4,h5,h6,h7⟩:=eqlI_ok (P:=P) hH hy hG hx hs
     refine OutV.ok (s:=do eqGuard .neq t x y (ρ x) (ρ y); binOp .neq t (ρ x) (ρ y)) (r:=.val (.bool (mkNot s))) ⟨_,VRel.bool_mk (mkNot_den s),?_⟩
     simp [eqGuard_ok (P:=P) (w:=w) (op:=.neq) (t:=t) h2 h3,(binOp_other h1 h4 h5 h6 h7).2]
    ·trivial
   ·trivial
 | unOp o t x=>exact OutV.ok (unop_V hG (he x (by simp [Op.operands])))
 | convert s d x =>
  have hx:=he x (by simp [Op.operands])
  simp only[opA]
  split
  ·rename_i d1 k k' n hs hd hev
   rw[hev] at hx
   have hx:=VRel.int_inv hx
   refine OutV.ok (s:=convert s d (ρ x)) (r:=.val (.int k (wrapK G k n))) ⟨.int k (k.wrap (n.den E)),VRel.int_mk k (wrapK_den hG k n),?_⟩
   rw[hx]
   simp [convert,underlying_ok hs,underlying_ok hd,Conv.intToInt]
  ·rename_i t id off hs hd hev
   rw[hev] at hx
   simp only[VRel] at hx
   obtain⟨b,hb,h0,hx⟩:=hx
   split
   ·rename_i n ab hn hab
    split
    ·rename_i cv hcv
     obtain⟨a,o,h1,h2,h3⟩:=hH.blk id ab hab
     have e:a=b:=by rw[hb] at h1; simpa using h1.symm
     subst e
     obtain⟨v,hcell,_,_⟩:=AB.cell_ok h3 h2 hcv
     refine OutV.ok (s:=convert s d (ρ x)) (r:=.val (.ptr id (.lit off))) ⟨ρ x,by simp only[VRel]; exact⟨a,hb,h0,hx⟩,?_⟩
     rw[hx]
     refine run_convert_to_unsafe hs hd ?_ (v:=v) (by simpa [SI.den] using hcell)
     simp only[sizeB,Option.map_eq_some_iff] at hn
     obtain⟨i,hi,hin⟩:=hn
     simp [hi,hin]
    ·trivial
   ·trivial
  ·trivial
 | makeInterface t x =>
  have hx:=he x (by simp [Op.operands])
  simp only[opA]
  split
  ·trivial
  ·rename_i d hni hu
   refine OutV.ok (s:=Instr.makeInterface t (ρ x)) (r:=.val (.iface t (ev x))) ⟨.iface t (ρ x),by simp only[VRel]; exact⟨_,hx,rfl⟩,?_⟩
   cases d <;> first | (exact(hni _ rfl).elim) | (simp [Instr.makeInterface,underlying_ok hu])
  ·trivial
 | makeFunc fn first captured =>
  simp only[opA]
  split
  ·trivial
  ·rename_i hny
   refine OutV.ok (s:=Instr.makeFunc fn (first.map ρ) (captured.map ρ)) (r:=.val (.func fn (first.toList.map ev) (captured.toList.map ev))) ⟨.func fn (first.map ρ) (captured.map ρ),?_,by simp [Instr.makeFunc]⟩
   simp only[VRel]
   exact⟨_,_,fun l h=>hny l h,map_ok (fun x hx=>he x (by simp [Op.operands,hx])),map_ok (fun x hx=>he x (by simp [Op.operands,hx])),by rw[Array.toArray_toList,Array.toArray_toList]⟩
 | makeSlice t l c=>exact OutV.ok (makeSliceQ_V hH hG (he l (by simp [Op.operands])) (he c (by simp [Op.operands])))
 | slice t x lo hi mx =>
  have hx:=he x (by simp [Op.operands])
  simp only[opA]
  split
  ·rename_i l h m hl hh hm
   refine OutV.ok (slice_V hG hx (num_lit hG (num_ok (fun p hp=>he p ?_) hl)) (num_lit hG (num_ok (fun p hp=>he p ?_) hh)) (num_lit hG (num_ok (fun p hp=>he p ?_) hm)))
   ·subst hp; simp [Op.operands]
   ·subst hp; simp [Op.operands]
   ·subst hp; simp [Op.operands]
  ·trivial
 | fieldAddr s x f =>
  have hx:=he x (by simp [Op.operands])
  simp only[opA]
  split
  ·rename_i fs id off hu hev
   rw[hev] at hx
   simp only[VRel] at hx
   obtain⟨b,hb,ho,hx⟩:=hx
   split
   ·rename_i fd hfd
    split
    ·rename_i n hn
     refine OutV.ok (s:=Instr.fieldAt s (ρ x) f) (r:=.val (.ptr id (mkAdd off (.lit fd.offset)))) ⟨.pointer (some ⟨b,(off.den E).toNat+fd.offset,none⟩),?_,?_⟩
     ·simp only[VRel]
      refine⟨b,hb,?_,?_⟩
      ·rw[mkAdd_den]; simp only[SI.den]; omega
      ·rw[mkAdd_den]; simp only[SI.den]; congr 3; omega
     ·rw[hx]
      simp [Instr.fieldAt,underlying_ok hu,hfd,Instr.sureAddr,fieldPlace,sizeB_ok hn,add_none]
    ·trivial
   ·trivial
  ·trivial
 | field t x f =>
  have hx:=he x (by simp [Op.operands])
  simp only[opA]
  split
  ·rename_i fs cs hu hev
   rw[hev] at hx
   simp only[VRel] at hx
   obtain⟨vs,hvs,hx⟩:=hx
   split
   ·rename_i fd hfd
    have:=OutV.ok (part_V (P:=P) (H:=H) (w:=w) hG (t:=fd.type) (off:=fd.offset) hvs)
    have e2:(execOp ρ ⟨dst,.field t x f,ty,pos,after,guard⟩).run P w=(do pure (Next.value (← part fd.type vs.toArray fd.offset)):Sem Next).run P w:=by
     simp [execOp,Instr.field,underlying_ok hu,hfd,hx,asAgg]
    revert this
    cases partA P G fd.type cs fd.offset <;> simp only[OutOK,CommTo,e2] <;> exact id
   ·trivial
  ·trivial
 | indexAddr t x i =>
  have hx:=he x (by simp [Op.operands])
  have hi:=he i (by simp [Op.operands])
  simp only[opA]
  split
  ·rename_i k n hev
   rw[hev] at hi
   have hi:=VRel.int_inv hi
   have:=OutV.ok (indexAddr_V (P:=P) (H:=H) (w:=w) (t:=t) (k:=k) (i:=n) hG hx)
   have e2:execOp ρ ⟨dst,.indexAddr t x i,ty,pos,after,guard⟩=(do pure (Next.value (← Instr.indexAt t (ρ x) (.int k (n.den E)))):Sem Next):=by
    simp [execOp,hi]
   rw[e2]; exact this
  ·trivial
 | index t x i =>
  have hx:=he x (by simp [Op.operands])
  have hi:=he i (by simp [Op.operands])
  simp only[opA]
  split
  ·rename_i k n0 hevi
   rw[hevi] at hi
   have hi:=VRel.int_inv hi
   refine pinned_ok hG fun c hc=>?_
   rw[hc] at hi
   unfold indexVA
   split
   ·rename_i len e cs n hu hevx hcn
    rw[hevx] at hx
    simp only[SI.lit.injEq] at hcn
    subst hcn
    simp only[VRel] at hx
    obtain⟨vs,hvs,hx⟩:=hx
    split
    ·rename_i s hs
     split
     ·rename_i hlt
      have:=OutV.ok (part_V (P:=P) (H:=H) (w:=w) hG (t:=e) (off:=n*s) hvs)
      have e2:(execOp ρ ⟨dst,.index t x i,ty,pos,after,guard⟩).run P w=(do pure (Next.value (← part e vs.toArray (n*s))):Sem Next).run P w:=by
       simp [execOp,Instr.index,underlying_ok hu,hx,hi,asIntOf,hlt,sizeB_ok hs]
      revert this
      cases partA P G e cs (n*s) <;> simp only[OutOK,CommTo,e2] <;> exact id
     ·trivial
    ·trivial
   ·trivial
  ·trivial
 | extract t i =>
  have hx:=he t (by simp [Op.operands])
  simp only[opA]
  split
  ·rename_i vs hev
   rw[hev] at hx
   simp only[VRel] at hx
   obtain⟨us,hus,hx⟩:=hx
   split
   ·rename_i v hv
    obtain⟨u,hu,hr⟩:=hus.get hv
    exact⟨u,hr,by simp [execOp,Instr.extract,hx,hu]⟩
   ·trivial
  ·trivial
 | typeAssert x xt a ok=>exact OutV.ok (assert_V (he x (by simp [Op.operands])))
 | call c =>
  have hargs:VRelL E (c.args.toList.map ev) (c.args.map ρ).toList:=map_ok (fun x hx=>he x (by simp [Op.operands,Call.operands,hx]))
  simp only[opA]
  split
  ·rename_i f hf
   have hfv:VRel E (ev f) (ρ f):=he f (by simp [Op.operands,Call.operands,hf])
   have:=invoke_OK (P:=P) hH hG hfv hargs
   have e2:execOp ρ ⟨dst,.call c,ty,pos,after,guard⟩=(do let d ← Deferred.ofValue (ρ f) (c.args.map ρ).toList.toArray; invoke d.target d.args):=by
    rw[Array.toArray_toList]; simp [execOp,resolve,hf]
   rw[e2]; exact this
  ·rename_i r name hf
   have hfv:VRel E (ev r) (ρ r):=he r (by simp [Op.operands,Call.operands,hf])
   have:=method_OK (P:=P) (name:=name) hH hG hfv hargs
   have e2:execOp ρ ⟨dst,.call c,ty,pos,after,guard⟩=callMethod (ρ r) name (c.args.map ρ).toList.toArray:=by
    rw[Array.toArray_toList]
    have e3:(#[ρ r]++c.args.map ρ)[0]?=some (ρ r):=by simp [Array.getElem?_append]
    have e4:(#[ρ r]++c.args.map ρ).extract 1 (#[ρ r]++c.args.map ρ).size=c.args.map ρ:=by simp [Array.extract_append]
    simp only[execOp,resolve,hf,pure_bind,invoke,e3,e4]
   rw[e2]; exact this
  ·rename_i b hf
   have:=builtin_OK (P:=P) (b:=b) (ats:=c.argTypes) (ty:=ty) (cs:=c.args.map fun | .const _=>true | _=>false) hH hG hargs
   have e2:execOp ρ ⟨dst,.call c,ty,pos,after,guard⟩=builtin b c.argTypes ty (c.args.map fun | .const _=>true | _=>false) (c.args.map ρ).toList.toArray:=by
    rw[Array.toArray_toList]; simp [execOp,resolve,hf,invoke]; rfl
   rw[e2]; exact this
 | makeChan t n=>exact OutV.ok (makeChan_V hH (he n (by simp [Op.operands])))
 | recv t c ok =>
  refine recv_OK hH hG (he c (by simp [Op.operands])) (fun d e z hu hz=>?_)
  simp [execOp,underlying_ok hu,hz]
 | select cs blk =>
  cases blk with
  | true=>trivial
  | false =>
   simp only[opA]
   split
   ·rename_i c hc
    have hcs:cs=#[c]:=by cases cs; simp at hc; subst hc; rfl
    subst hcs
    refine select_OK (cv:=ρ c.chan) (sv:=c.send.map ρ) hH hG (he c.chan (by simp [Op.operands])) ?_ (fun z hz=>?_)
    ·cases hs:c.send with
     | none=>trivial
     | some x=>exact he x (by simp [Op.operands,hs])
    ·simp [execOp,hz]
   ·trivial
 | lookup t x i ok=>exact OutV.ok (lookup_V hH hG (he x (by simp [Op.operands])) (he i (by simp [Op.operands])))
 | mapUpdate t m k x=>exact mapSet_OK hH hG (he m (by simp [Op.operands])) (he k (by simp [Op.operands])) (he x (by simp [Op.operands])) (by simp [execOp])
 | insert t m k x=>exact mapSet_OK hH hG (he m (by simp [Op.operands])) (he k (by simp [Op.operands])) (he x (by simp [Op.operands])) (by simp [execOp])
 | makeMap t r =>
  have hE:=EffOK.new hH 0 (b:=.map []) (o:=.map #[] 0) ⟨[],0,rfl,rfl⟩
  have hv:VRel (E.ext H.next w.heap.size 0) (.map H.next) (.map (some w.heap.size)):=by simp only[VRel]; exact⟨w.heap.size,by simp [Env.ext],rfl⟩
  simp only[opA]
  split
  ·exact⟨_,_,hE,.inl ⟨_,hv,by simp [execOp,Instr.makeMap,run_newObj]⟩⟩
  ·rename_i kt et p hu
   split
   ·rename_i k n hev
    have hp:=he p (by simp [Op.operands])
    rw[hev] at hp
    have hp:=VRel.int_inv hp
    exact⟨_,_,hE,.inl ⟨_,hv,by simp [execOp,Instr.makeMap,run_newObj,underlying_ok hu,hp,asInt,asIntOf]⟩⟩
   ·trivial
  ·trivial
 | defer c =>
  simp only[opA]
  split
  ·rename_i f hf
   have hfv:VRel E (ev f) (ρ f):=he f (by simp [Op.operands,Call.operands,hf])
   have hargs:VRelL E (c.args.toList.map ev) (c.args.map ρ).toList:=map_ok (fun x hx=>he x (by simp [Op.operands,Call.operands,hx]))
   unfold deferA
   split
   ·rename_i g first captured hev
    rw[hev] at hfv
    simp only[VRel] at hfv
    obtain⟨fs,cs,_,h1,h2,h3⟩:=hfv
    refine⟨{ target:=.fn (.func g) cs.toArray,args:=fs.toArray++c.args.map ρ },⟨fs++(c.args.map ρ).toList,cs,?_,by simp⟩,?_⟩
    ·exact(h1.append hargs).append h2
    ·simp [execOp,resolve,hf,h3,Deferred.ofValue]
   ·trivial
  ·trivial
 | sliceToArrayPointer t x =>
  have hx:=he x (by simp [Op.operands])
  simp only[opA]
  split
  ·rename_i n e id off len cap hu hev
   rw[hev] at hx
   simp only[VRel] at hx
   obtain⟨b,hb,h0,hx⟩:=hx
   refine OutV.ok (s:=Instr.arrayAt t (ρ x)) (withB_V hG (fun _=>trivial) (fun h=>?_))
   rw[mkLss_den hG] at h
   have h:=Int.not_lt.1 (of_decide_eq_false h)
   simp only[SI.den] at h
   have hlt:¬ ((len.den E).toNat<n):=by omega
   refine⟨.pointer (some ⟨b,(off.den E).toNat,none⟩),by simp only[VRel]; exact⟨b,hb,h0,rfl⟩,?_⟩
   rw[hx]
   simp [Instr.arrayAt,underlying_ok hu,hlt]
  ·rename_i n e id skip size len hu hev
   rw[hev] at hx
   simp only[VRel] at hx
   obtain⟨b,hb,h0,hx⟩:=hx
   split
   ·rename_i hle
    have hlt:¬ (len<n):=by omega
    refine OutV.ok (s:=Instr.arrayAt t (ρ x)) (r:=.val (.ptr id (.lit (skip*size:Nat)))) ⟨.pointer (some ⟨b,skip*size,none⟩),by simp only[VRel,SI.den]; exact⟨b,hb,Int.natCast_nonneg _,by rw[Int.toNat_natCast]⟩,?_⟩
    rw[hx]
    simp [Instr.arrayAt,underlying_ok hu,hlt]
   ·trivial
  ·trivial
 | _=>trivial
end Go.Ev
