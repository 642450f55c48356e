/- Ev, part 1: rows: what loads, stores and appends do there. -/
import Derived.Test.YtmmehhibkpfghaaGreatEvJ
set_option linter.unusedVariables false
namespace Go.Ev
variable {P:Program} {E:Env} {G:Ctx} {H:AHeap} {w:World}
theorem nat_mul_add_div {p q c:Nat}(hc:c<p):(q*p+c) % p=c:=by
 rw[Nat.mul_comm,Nat.mul_add_mod,Nat.mod_eq_of_lt hc]
theorem splitOff_ok {p:Nat}{off i:SI}{c:Nat}(h:splitOff p off=some (i,c)):off.den E=i.den E*p+c∧c<p:=by
 unfold splitOff at h
 split at h
 ·rename_i hp; subst hp
  simp at h
  obtain⟨rfl,rfl⟩:=h
  simp
 ·split at h
  ·rename_i m
   split at h
   ·simp at h
   ·rename_i hp
    simp at h
    obtain⟨rfl,rfl⟩:=h
    refine⟨?_,Nat.mod_lt _ (Nat.pos_of_ne_zero hp)⟩
    simp only[SI.den]
    have:=Nat.div_add_mod' m p
    show ((m:Nat):Int)=((m / p:Nat):Int)*(p:Int)+((m % p:Nat):Int)
    rw[← Int.natCast_mul,← Int.natCast_add,this]
  ·rename_i j q
   split at h
   ·rename_i hq
    obtain⟨hp,hm⟩:=hq
    simp at h
    obtain⟨rfl,rfl⟩:=h
    refine⟨?_,Nat.pos_of_ne_zero hp⟩
    simp only[mkMul_den,SI.den]
    have h1:=Nat.div_add_mod' q p
    have h2:((q:Nat):Int)=((q / p:Nat):Int)*(p:Int):=by
     rw[← Int.natCast_mul]; congr 1; omega
    show j.den E*((q:Nat):Int)=j.den E*((q / p:Nat):Int)*(p:Int)+((0:Nat):Int)
    rw[h2,Int.mul_assoc]; simp
   ·simp at h
  ·rename_i j q d
   split at h
   ·rename_i hq
    obtain⟨hp,hm⟩:=hq
    simp at h
    obtain⟨rfl,rfl⟩:=h
    refine⟨?_,Nat.mod_lt _ (Nat.pos_of_ne_zero hp)⟩
    simp only[SI.den,mkAdd_den,mkMul_den]
    have h0:=Nat.div_add_mod' q p
    have h3:((q:Nat):Int)=((q / p:Nat):Int)*(p:Int):=by
     rw[← Int.natCast_mul]; congr 1; omega
    have h1:=Nat.div_add_mod' d p
    have h2:((d:Nat):Int)=((d / p:Nat):Int)*(p:Int)+((d % p:Nat):Int):=by
     rw[← Int.natCast_mul,← Int.natCast_add,h1]
    show j.den E*((q:Nat):Int)+((d:Nat):Int)=(j.den E*((q / p:Nat):Int)+((d / p:Nat):Int))*(p:Int)+((d % p:Nat):Int)
    generalize ((d:Nat):Int)=x at *
    generalize ((d / p:Nat):Int)=y at *
    generalize ((d % p:Nat):Int)=z at *
    rw[h3,h2,Int.add_mul,Int.mul_assoc,Int.add_assoc]
   ·simp at h
  ·simp at h
theorem row_at {a n:SI}{pat:List CK}{vs:Array Value}(hr:Row E a n pat vs) {off i:SI}{c:Nat}(h:splitOff pat.length off=some (i,c)) (h0:0≤i.den E) (h1:i.den E<n.den E) {ck:CK}
  (hck:pat[c]?=some ck):0≤off.den E∧(off.den E).toNat<(n.den E).toNat*pat.length∧(off.den E).toNat % pat.length=c∧vs[(off.den E).toNat]?=some (ck.val (a.cells E (off.den E))):=by
 obtain⟨he,hc⟩:=splitOff_ok (E:=E) h
 obtain⟨q,hq⟩:=Int.eq_ofNat_of_zero_le h0
 obtain⟨m,hm⟩:=Int.eq_ofNat_of_zero_le (Int.le_of_lt (Int.lt_of_le_of_lt h0 h1))
 rw[hq] at he h1
 rw[hm] at h1
 have he':off.den E=((q*pat.length+c:Nat):Int):=by rw[he]; push_cast; rfl
 have hlt:q*pat.length+c<m*pat.length:=by
  have h2:q+1≤m:=by omega
  have:=Nat.mul_le_mul_right pat.length h2
  rw[Nat.add_mul,Nat.one_mul] at this
  omega
 have hmod:(q*pat.length+c) % pat.length=c:=nat_mul_add_div hc
 rw[he',hm]
 simp only[Int.toNat_natCast]
 refine⟨by omega,hlt,hmod,?_⟩
 obtain⟨ck',h2,h3⟩:=hr.2.2 (q*pat.length+c) (by rw[hm]; simpa using hlt)
 rw[hmod,hck] at h2
 simp at h2; subst h2
 exact h3
theorem cellRow_ok (hG:G.Ok E) {a n:SI}{pat:List CK}{vs:Array Value}(hr:Row E a n pat vs) {off:SI}{v:AV}(h:cellRow G a n pat off=.inl v) :
  0≤off.den E∧∃ u,vs[(off.den E).toNat]?=some u∧VRel E v u:=by
 unfold cellRow at h
 split at h
 case h_2=>simp at h
 rename_i i c hs
 split at h
 case h_2=>simp at h
 rename_i ck hck
 split at h
 case h_2=>simp at h
 case h_3=>simp at h
 rename_i k0
 split at h
 case h_2=>simp at h
 case h_3=>simp at h
 rename_i k1
 have k0:=SB.know_ok hG k0
 have k1:=SB.know_ok hG k1
 rw[mkLss_den hG] at k0 k1
 have k0:=Int.not_lt.1 (of_decide_eq_false k0)
 have k1:=of_decide_eq_true k1
 simp only[SI.den] at k0
 obtain⟨r0,_,_,r1⟩:=row_at hr hs k0 k1 hck
 refine⟨r0,_,r1,?_⟩
 split at h
 ·rename_i k
  split at h
  ·rename_i x hx
   simp at h; subst h
   exact VRel.int_mk k (mkSel_den hG _ _ _ hx)
  ·simp at h
 ·split at h
  ·rename_i x hx
   simp at h; subst h
   refine VRel.bool_mk ?_
   rw[mkEql_den hG,mkSel_den hG _ _ _ hx]; rfl
  ·simp at h
theorem cellRow_inr {a n:SI}{pat:List CK}{off:SI}{o:AOut}(h:cellRow G a n pat off=.inr o):(∃ s,o=.fork s)∨∃ s,o=.fail s:=by
 unfold cellRow at h
 repeat' (split at h)
 all_goals (simp at h; try (subst h; first | exact .inl ⟨_,rfl⟩ | exact .inr ⟨_,rfl⟩))
theorem cellsRow_inr {a n:SI}{pat:List CK}{o:AOut}:∀ {m:Nat}{off:SI},cellsRow G a n pat off m=.inr o→(∃ s,o=.fork s)∨∃ s,o=.fail s
 | 0,_,h=>by simp [cellsRow] at h
 | m+1,off,h=>by
  simp only[cellsRow] at h
  split at h
  ·split at h
   ·simp at h
   ·rename_i ho; simp at h; subst h; exact cellsRow_inr ho
  ·rename_i ho; simp at h; subst h; exact cellRow_inr ho
theorem OutV.inr {o:AOut}(h:(∃ s,o=.fork s)∨∃ s,o=.fail s) (s:Sem Value):OutV P E H w o s:=by
 rcases h with ⟨_,rfl⟩ | ⟨_,rfl⟩ <;> trivial
theorem OutOK.inr {o:AOut}(h:(∃ s,o=.fork s)∨∃ s,o=.fail s) (s:Sem Next):OutOK P E H w o s:=by
 rcases h with ⟨_,rfl⟩ | ⟨_,rfl⟩ <;> trivial
theorem stripS_ok {o:SI}:∀ {t z:SI},stripS o t=some z→t.den E=o.den E+z.den E
 | .add x y,z,h=>by
  unfold stripS at h
  split at h
  ·rename_i e; simp at h; subst h; subst e; rfl
  ·split at h
   ·rename_i e; simp at h; subst h; rw[e]; simp [SI.den]
   ·split at h
    ·rename_i q hq
     simp at h; subst h
     rw[mkAdd_den]; simp only[SI.den]; rw[stripS_ok hq]; omega
    ·simp at h
 | .lit _,z,h | .var _,z,h | .sub _ _,z,h | .mul _ _,z,h | .quo _ _,z,h | .rem _ _,z,h | .wrap _ _,z,h | .bits _ _ _ _,z,h | .shl _ _ _,z,h | .shr _ _,z,h | .sel _ _ _,z,h | .row _,z,h | .con _,z,h | .upd _ _ _,z,h | .app _ _ _ _,z,h | .rmap _ _ _,z,h | .cnt _ _ _,z,h=>by
  simp only[stripS] at h
  split at h
  ·rename_i e; simp at h; subst h; rw[e]; simp [SI.den]
  ·simp at h
theorem extract_at {vs:Array Value}{k j:Nat}{u:Value}(h:(vs.extract k vs.size)[j]?=some u):vs[k+j]?=some u:=by
 rw[Array.getElem?_extract] at h
 split at h
 ·exact h
 ·simp at h
theorem RowM.at {md:Md}{a n:SI}{pat:List CK}{vs:Array Value}(h:RowM E md a n pat vs) {off off':SI}(ho:md.offOf off=some off'):∃ k:Nat,Row E a n pat (vs.extract k vs.size)∧off.den E=(k:Int)+off'.den E:=by
 cases md with
 | ro o =>
  obtain⟨h0,hr⟩:=h
  refine⟨_,hr,?_⟩
  rw[stripS_ok ho,Int.toNat_of_nonneg h0]
 | own=>simp [Md.offOf] at ho; subst ho; exact⟨0,by rw[Array.extract_size]; exact h,by simp⟩
 | opn=>simp [Md.offOf] at ho; subst ho; exact⟨0,by rw[Array.extract_size]; exact h,by simp⟩
theorem cellsRow_ok (hG:G.Ok E) {a n:SI}{pat:List CK}{vs:Array Value}{q:Nat}(hr:Row E a n pat (vs.extract q vs.size)) {b o:Nat}{e:TypeId}{fz:Nat × Nat}:∀ {m i:Nat}{off:SI}{l:List AV},(q:Int)+off.den E=((o+i:Nat):Int) →
  cellsRow G a n pat off m=.inl l→∃ us,VRelL E l us∧∀ (w:World) (acc:Array Value),w.heap[b]?=some (.cells vs e fz)→(loadCellsFrom ⟨b,o,none⟩ i m acc).run P w=.ok (acc++us.toArray) w
 | 0,i,off,l,_,h=>by
  simp [cellsRow] at h; subst h
  exact⟨[],VRelL.nil,fun w acc _=>by simp [loadCellsFrom]⟩
 | m+1,i,off,l,ho,h=>by
  simp only[cellsRow] at h
  split at h
  ·rename_i v hv
   split at h
   ·rename_i r hrr
    simp at h; subst h
    obtain⟨p0,u,hu,hvu⟩:=cellRow_ok hG hr hv
    have hu:=extract_at hu
    rw[show q+(off.den E).toNat=o+i by omega] at hu
    obtain⟨us,hus,hrun⟩:=cellsRow_ok (o:=o) (m:=m) (i:=i+1) hG hr (by rw[mkAdd_den]; simp only[SI.den]; omega) hrr
    refine⟨u::us,VRelL.cons hvu hus,fun w acc hw=>?_⟩
    have hc:w.cell? ⟨b,o+i,none⟩=some u:=by simp [World.cell?,hw,hu]
    have:=hrun w (acc.push u) hw
    simp only[loadCellsFrom,add_none,Sem.run_bind,run_load,hc,Result.andThen_ok]
    rw[this]
    simp
   ·simp at h
  ·simp at h
theorem loadRow_at (hG:G.Ok E) {t:TypeId}{b q p:Nat}{a n:SI}{pat:List CK}{e:TypeId}{vs:Array Value}{fz:Nat × Nat}(hw:w.heap[b]?=some (.cells vs e fz)) (hr:Row E a n pat (vs.extract q vs.size)) {off:SI}
  (ho:(q:Int)+off.den E=(p:Int)):OutV P E H w (loadRow P G t a n pat off) (loadVar t ⟨b,p,none⟩):=by
 unfold loadRow
 split
 ·rename_i hag
  split
  ·rename_i v hv
   obtain⟨p0,u,hu,hvu⟩:=cellRow_ok hG hr hv
   have hu:=extract_at hu
   rw[show q+(off.den E).toNat=p by omega] at hu
   exact⟨u,hvu,by simp [loadVar,isAggB_ok hag,World.cell?,hw,hu]⟩
  ·rename_i o ho; exact OutV.inr (cellRow_inr ho) _
 ·rename_i m hag hm
  split
  ·rename_i l hl
   obtain⟨us,hus,hrun⟩:=cellsRow_ok (P:=P) (b:=b) (o:=p) (i:=0) (e:=e) (fz:=fz) hG hr (by rw[ho]; simp) hl
   refine⟨.agg us.toArray,by simp only[VRel]; exact⟨us,hus,rfl⟩,?_⟩
   have:=hrun w #[] hw
   simp [loadVar,isAggB_ok hag,sizeB_ok hm,loadCells,this]
  ·rename_i o ho; exact OutV.inr (cellsRow_inr ho) _
 ·trivial
theorem loadRow_V (hH:HRel E H w) (hG:G.Ok E) {t:TypeId}{id b:Nat}{md:Md}{a n:SI}{pat:List CK}{e:TypeId}(hget:H.get id=some (.row md a n pat e)) (hb:E.loc id=some b) {off:SI}(h0:0≤off.den E) :
  OutV P E H w (loadRowM P G t md a n pat off) (loadVar t ⟨b,(off.den E).toNat,none⟩):=by
 obtain⟨b',o,h1,h2,vs,fz,e2,rfl,_,hr,_⟩:=hH.blk id _ hget
 have eb:b'=b:=by rw[hb] at h1; simpa using h1.symm
 subst eb
 unfold loadRowM
 split
 ·rename_i off' ho
  obtain⟨k,hr',hk⟩:=hr.at ho
  exact loadRow_at hG h2 hr' (by rw[Int.toNat_of_nonneg h0]; exact hk.symm)
 ·trivial
theorem offRos_ok {o t z:SI}(h:offRos o t=some z):t.den E=o.den E+z.den E:=by
 unfold offRos at h
 split at h
 ·simp at h; subst h; simp only[SI.den]; omega
 ·split at h
  ·rename_i e; simp at h; subst h; subst e; simp [SI.den]
  ·simp at h
 ·exact stripS_ok h
theorem offRosG_ok (hG:G.Ok E) {o t z:SI}(h:offRosG G o t=some z):t.den E=o.den E+z.den E:=by
 unfold offRosG at h
 split at h
 ·rename_i q hq; simp at h; subst h; exact offRos_ok hq
 ·split at h
  ·rename_i x y hx hy
   split at h
   ·rename_i hc
    have h1:=SI.rangeT_ok hG hx
    have h2:=SI.rangeT_ok hG hy
    simp at h; subst h
    simp only[SI.den]
    omega
   ·simp at h
  ·simp at h
theorem loadRos_V (hH:HRel E H w) (hG:G.Ok E) {t:TypeId}{id b:Nat}{o n:SI}{cs:List AV}{e:TypeId}(hget:H.get id=some (.ros o n cs e)) (hb:E.loc id=some b) {off:SI}(_:0≤off.den E) :
  OutV P E H w (loadRos P G t o n cs off) (loadVar t ⟨b,(off.den E).toNat,none⟩):=by
 obtain⟨b',ob,h1,h2,vs,fz,e2,rfl,h3,h4⟩:=hH.blk id _ hget
 have eb:b'=b:=by rw[hb] at h1; simpa using h1.symm
 subst eb
 unfold loadRos
 split
 ·rename_i i hag hs
  split
  ·rename_i v hv
   split
   ·rename_i hk
    have hlt:=SB.know_ok hG hk
    rw[mkLss_den hG] at hlt
    have hlt:((i:Nat):Int)<n.den E:=of_decide_eq_true hlt
    obtain⟨u,k1,k2⟩:=h4 i v hv hlt
    have e1:=offRosG_ok hG hs
    have e2:(off.den E).toNat=(o.den E).toNat+i:=by rw[e1]; simp only[SI.den]; simp; omega
    refine valA_V hG ?_ k2
    rw[e2]
    simp [loadVar,isAggB_ok hag,World.cell?,h2,k1]
   ·trivial
   ·trivial
  ·trivial
 ·trivial
theorem rowVal_ok (hG:G.Ok E) {ck:CK}{v:AV}{x:SI}{u:Value}(h:rowVal G ck v=.inl x) (hv:VRel E v u):u=ck.val (x.den E)∧u.oneCell'=true:=by
 unfold rowVal at h
 split at h
 ·rename_i k k' n
  split at h
  ·rename_i r hr
   split at h
   ·rename_i hc
    obtain⟨rfl,hin⟩:=hc
    simp at h; subst h
    have:=VRel.int_inv hv; subst this
    have hb:=SI.range_ok hG hr
    simp [inRange] at hin
    refine⟨?_,rfl⟩
    simp only[CK.val]
    rw[wrap_self k _ (by omega) (by omega)]
   ·simp at h
  ·simp at h
 ·rename_i s
  split at h
  ·rename_i t ht
   simp at h; subst h
   simp only[VRel] at hv; subst hv
   rw[SB.know_ok hG ht]
   refine⟨?_,rfl⟩
   cases t <;> simp [CK.val,SI.den] <;> decide
  ·simp at h
 ·simp at h
theorem rowVal_inr {ck:CK}{v:AV}{o:AOut}(h:rowVal G ck v=.inr o):(∃ s,o=.fork s)∨∃ s,o=.fail s:=by
 unfold rowVal at h
 repeat' (split at h)
 all_goals (simp at h; try (subst h; first | exact .inl ⟨_,rfl⟩ | exact .inr ⟨_,rfl⟩))
theorem setRow_inr {a n:SI}{pat:List CK}{off:SI}{v:AV}{o:AOut}(h:setRow G a n pat off v=.inr o):(∃ s,o=.fork s)∨∃ s,o=.fail s:=by
 unfold setRow at h
 repeat' (split at h)
 all_goals first
  | (rename_i ho; simp at h; subst h; exact rowVal_inr ho)
  | (simp at h; try (subst h; first | exact .inl ⟨_,rfl⟩ | exact .inr ⟨_,rfl⟩))
theorem setsRow_inr {n:SI}{pat:List CK}{o:AOut}:∀ {l:List AV}{a off:SI},setsRow G a n pat off l=.inr o→(∃ s,o=.fork s)∨∃ s,o=.fail s
 | [],_,_,h=>by simp [setsRow] at h
 | v::l,a,off,h=>by
  simp only[setsRow] at h
  split at h
  ·exact setsRow_inr h
  ·rename_i ho; simp at h; subst h; exact setRow_inr ho
theorem strikeR_cells {i:SI}{k:Int}(h:¬ k=i.den E):∀ a:SI,(strikeR i a).cells E k=a.cells E k:=by
 intro a
 induction a with
 | upd a j v ih _ _ =>
  simp only[strikeR]
  split
  ·rename_i e
   subst e
   simp only[SI.cells]
   rw[if_neg h,ih]
  ·simp only[SI.cells]
   rw[ih]
 | _=>rfl
theorem setRow_ok (hG:G.Ok E) {a a' n:SI}{pat:List CK}{vs:Array Value}(hr:Row E a n pat vs) {off:SI}{v:AV}{u:Value}(h:setRow G a n pat off v=.inl a') (hv:VRel E v u) :
  0≤off.den E∧(off.den E).toNat<vs.size∧u.oneCell'=true∧Row E a' n pat (vs.setIfInBounds (off.den E).toNat u):=by
 unfold setRow at h
 split at h
 case h_2=>simp at h
 rename_i i c hs
 split at h
 case h_2=>simp at h
 rename_i ck hck
 split at h
 case h_2=>simp at h
 case h_3=>simp at h
 rename_i k0
 split at h
 case h_2=>simp at h
 case h_3=>simp at h
 rename_i k1
 have k0:=SB.know_ok hG k0
 have k1:=SB.know_ok hG k1
 rw[mkLss_den hG] at k0 k1
 have k0:=Int.not_lt.1 (of_decide_eq_false k0)
 have k1:=of_decide_eq_true k1
 simp only[SI.den] at k0
 obtain⟨r0,r2,r3,r1⟩:=row_at hr hs k0 k1 hck
 split at h
 case h_2=>simp at h
 rename_i x hx
 simp at h; subst h
 obtain⟨hu,h1⟩:=rowVal_ok hG hx hv
 have hlt:(off.den E).toNat<vs.size:=Nat.lt_of_lt_of_le r2 hr.2.1
 refine⟨r0,hlt,h1,hr.1,by simpa using hr.2.1,fun j hj=>?_⟩
 simp only[SI.cells]
 by_cases e:j=(off.den E).toNat
 ·subst e
  refine⟨ck,by rw[r3]; exact hck,?_⟩
  rw[Array.getElem?_setIfInBounds_self,if_pos hlt,if_pos (by omega),hu]
 ·obtain⟨ck',q1,q2⟩:=hr.2.2 j hj
  refine⟨ck',q1,?_⟩
  rw[Array.getElem?_setIfInBounds_ne (fun h=>e h.symm),if_neg (by omega),strikeR_cells (by omega)]
  exact q2
theorem setsRow_ok (hG:G.Ok E) {n:SI}{pat:List CK}{b o:Nat}{e:TypeId}:∀ {l:List AV}{us:List Value}{i:Nat}{off a a':SI}{vs:Array Value}{w:World},off.den E=((o+i:Nat):Int) →
  setsRow G a n pat off l=.inl a'→VRelL E l us→w.heap[b]?=some (.cells vs e (0,0))→Row E a n pat vs →
  ∃ w' vs',(storeCells ⟨b,o,none⟩ us i).run P w=.ok () w'∧w'.heap[b]?=some (.cells vs' e (0,0))∧Row E a' n pat vs'∧vs'.size=vs.size∧w'.heap.size=w.heap.size∧(∀ k,k≠b→w'.heap[k]?=w.heap[k]?) ∧
   w'.os=w.os∧w'.tape=w.tape∧w'.output=w.output
 | [],us,i,off,a,a',vs,w,_,h,hv,hb,hr=>by
  simp only[VRelL] at hv; subst hv
  simp [setsRow] at h; subst h
  exact⟨w,vs,by simp [storeCells],hb,hr,rfl,rfl,fun _ _=>rfl,rfl,rfl,rfl⟩
 | v::l,us,i,off,a,a',vs,w,ho,h,hv,hb,hr=>by
  simp only[VRelL] at hv
  obtain⟨u,ys,hu,hys,rfl⟩:=hv
  simp only[setsRow] at h
  split at h
  case h_2=>simp at h
  rename_i a1 h1
  obtain⟨_,q1,q2,q3⟩:=setRow_ok hG hr h1 hu
  rw[ho] at q1 q3
  simp only[Int.toNat_natCast] at q1 q3
  have hc:w.cell? ⟨b,o+i,none⟩=some vs[o+i]:=by simp [World.cell?,hb,q1]
  have hf:w.frozen? ⟨b,o+i,none⟩=false:=by simp [World.frozen?,hb]
  have hb':(w.setCell ⟨b,o+i,none⟩ u).heap[b]?=some (.cells (vs.setIfInBounds (o+i) u) e (0,0)):=by simp [World.setCell,Array.getElem?_modify,hb]
  obtain⟨w',vs',k1,k2,k3,k4,k5,k6,k7,k8,k9⟩:=setsRow_ok (o:=o) (l:=l) (i:=i+1) (off:=mkAdd off (.lit 1)) hG (by rw[mkAdd_den,ho]; simp [SI.den]; omega) h hys hb' q3
  refine⟨w',vs',?_,k2,k3,by rw[k4]; simp,by rw[k5]; simp [World.setCell],fun k hk=>?_,k7,k8,k9⟩
  ·simp only[storeCells,add_none,Sem.run_bind,run_store_ok q2 hc hf,Result.andThen_ok,k1]
  ·rw[k6 k hk]
   simp only[World.setCell,Array.getElem?_modify]
   rw[if_neg (fun e=>hk e.symm)]
theorem storeRow_OK (hH:HRel E H w) (hG:G.Ok E) {t:TypeId}{id b:Nat}{md:Md}{a n:SI}{pat:List CK}{e:TypeId}(hget:H.get id=some (.row md a n pat e)) (hb:E.loc id=some b) {off:SI}(h0:0≤off.den E)
  {v:AV} {u:Value} (hv:VRel E v u) {s:Sem Next} (hs:∀ w',(storeVar t ⟨b,(off.den E).toNat,none⟩ u).run P w=.ok () w'→s.run P w=.ok .skip w') :
  OutOK P E H w (storeRow P G H t id md a n pat e off v) s:=by
 unfold storeRow
 split
 case h_2=>trivial
 rename_i m hm
 split
 case isFalse=>trivial
 rename_i hc
 obtain⟨hraw,hlen,hmd⟩:=hc
 split
 case h_2=>rename_i ho; exact OutOK.inr (setsRow_inr ho) _
 rename_i a' ha'
 obtain⟨b',o,h1,h2,vs,fz,e2,rfl,hfz,hr,hown,hopn⟩:=hH.blk id _ hget
 have eb:b'=b:=by rw[hb] at h1; simpa using h1.symm
 subst eb
 obtain⟨rfl,he2⟩:=hfz hmd
 have h2:w.heap[b']?=some (.cells vs e (0,0)):=by rw[← he2]; exact h2
 have hrw:(AB.row md a n pat e).rw=true:=by cases md <;> first | rfl | simp [Md.isRo] at hmd
 have hc:=AV.cells_ok hv hraw
 obtain⟨k,hk⟩:=Int.eq_ofNat_of_zero_le h0
 obtain⟨w',vs',q1,q2,q3,q4,q5,q6,q7,q8,q9⟩:=setsRow_ok (P:=P) (o:=k) (i:=0) hG (by rw[hk]; simp) ha' hc h2 (hr.row hmd)
 have hlive:Live E H b':=⟨id,_,.inl hget,hrw,hb⟩
 refine⟨E,w',⟨Env.le.refl E,hH.upd hget hrw hb q5 ⟨_,q2,vs',(0,0),_,rfl,fun _=>⟨rfl,rfl⟩,by cases md <;> first | exact q3 | simp [Md.isRo] at hmd,by rw[q4]; exact hown,by rw[q4]; exact hopn⟩ q6,⟨q7,q8,q9,by omega,fun j _ hn=>q6 j (fun e=>hn (by rw[e]; exact hlive))⟩,fun j hj=>.inl (Live.upd hH hget hrw hj),rfl⟩,.inr (.inl ⟨VRel.undef,hs w' ?_⟩)⟩
 have hsz:u.cells.size=m:=by rw[← hlen,← hc.length]; simp
 rw[hk]
 simp [storeVar,sizeB_ok hm,hsz,q1]
theorem rowVals_ok (hG:G.Ok E):∀ {cks:List CK}{vs:List AV}{xs:List SI}{us:List Value},rowVals G cks vs=.inl xs→VRelL E vs us →
  xs.length=cks.length∧us.length=cks.length∧(∀ (j:Nat) ck,cks[j]?=some ck→∃ x,xs[j]?=some x∧us[j]?=some (ck.val (x.den E)))∧∀ u ∈ us,u.oneCell'=true
 | [],[],xs,us,h,hv=>by
  simp [rowVals] at h; subst h
  simp only[VRelL] at hv; subst hv
  simp
 | ck::cks,v::vs,xs,us,h,hv=>by
  simp only[VRelL] at hv
  obtain⟨u,ys,hu,hys,rfl⟩:=hv
  simp only[rowVals] at h
  split at h
  ·rename_i x hx
   split at h
   ·rename_i r hr
    simp at h; subst h
    obtain⟨h1,h2,h3,h4⟩:=rowVals_ok hG hr hys
    obtain⟨k1,k2⟩:=rowVal_ok hG hx hu
    refine⟨by simp [h1],by simp [h2],fun j c hj=>?_,fun z hz=>?_⟩
    ·cases j with
     | zero=>simp at hj; subst hj; exact⟨x,rfl,by simp [k1]⟩
     | succ j=>simpa using h3 j c (by simpa using hj)
    ·rcases List.mem_cons.1 hz with rfl | hz
     ·exact k2
     ·exact h4 z hz
   ·simp at h
  ·simp at h
 | [],_::_,_,_,h,_=>by simp [rowVals] at h
 | _::_,[],_,_,h,_=>by simp [rowVals] at h
theorem rowVals_inr {o:AOut}:∀ {cks:List CK}{vs:List AV},rowVals G cks vs=.inr o→(∃ s,o=.fork s)∨∃ s,o=.fail s
 | [],[],h=>by simp [rowVals] at h
 | ck::cks,v::vs,h=>by
  simp only[rowVals] at h
  split at h
  ·split at h
   ·simp at h
   ·rename_i ho; simp at h; subst h; exact rowVals_inr ho
  ·rename_i ho; simp at h; subst h; exact rowVal_inr ho
 | [],_::_,h=>by simp [rowVals] at h; subst h; exact .inr ⟨_,rfl⟩
 | _::_,[],h=>by simp [rowVals] at h; subst h; exact .inr ⟨_,rfl⟩
theorem updMany_cells:∀ {xs:List SI}{a off:SI}{o:Nat},off.den E=(o:Int)→∀ (j:Nat),(updMany a off xs).cells E (j:Int)=if o≤j then (match xs[j-o]? with | some x=>x.den E | none=>a.cells E (j:Int)) else a.cells E (j:Int)
 | [],a,off,o,ho,j=>by simp [updMany]
 | x::xs,a,off,o,ho,j=>by
  simp only[updMany]
  rw[updMany_cells (o:=o+1) (by rw[mkAdd_den,ho]; simp [SI.den])]
  simp only[SI.cells,ho]
  by_cases h:o+1≤j
  ·have e:j-o=(j-(o+1))+1:=by omega
   have hne:¬ ((j:Int)=(o:Int)):=by omega
   have hle:o≤j:=by omega
   rw[if_pos h,if_pos hle,e,List.getElem?_cons_succ,if_neg hne]
  ·rw[if_neg h]
   by_cases e:j=o
   ·subst e; simp
   ·rw[if_neg (by omega),if_neg (by omega)]
theorem repPat_len (pat:List CK):∀ m,(repPat pat m).length=m*pat.length
 | 0=>by simp [repPat]
 | m+1=>by simp [repPat,repPat_len pat m,Nat.add_mul]; omega
theorem repPat_get (pat:List CK):∀ (m j:Nat),j<m*pat.length→(repPat pat m)[j]?=pat[j % pat.length]?
 | 0,j,h=>by simp at h
 | m+1,j,h=>by
  simp only[repPat]
  by_cases hj:j<pat.length
  ·rw[List.getElem?_append_left hj,Nat.mod_eq_of_lt hj]
  ·have hj:=Nat.not_lt.1 hj
   rw[List.getElem?_append_right hj,repPat_get pat m (j-pat.length) (by rw[Nat.add_mul,Nat.one_mul] at h; omega),← Nat.mod_eq_sub_mod hj]
theorem Row.append {a a' n n':SI}{pat:List CK}{A us R:List Value}{R0:List Value}{L m:Nat}(hr:Row E a n pat (A++R0).toArray) (hn:n.den E=(L:Int)) (hn':n'.den E=((L+m:Nat):Int)) (hA:A.length=L*pat.length)
  (hu:us.length=m*pat.length) (hold:∀ j:Nat,j<L*pat.length→a'.cells E (j:Int)=a.cells E (j:Int))
  (hnew:∀ q,q<m*pat.length→∃ ck,pat[q % pat.length]?=some ck∧us[q]?=some (ck.val (a'.cells E ((L*pat.length+q:Nat):Int)))) :
  Row E a' n' pat (A++us++R).toArray:=by
 refine⟨by omega,?_,fun j hj=>?_⟩
 ·rw[hn']
  simp only[Int.toNat_natCast,List.size_toArray,List.length_append,hA,hu,Nat.add_mul]
  omega
 ·rw[hn'] at hj
  simp only[Int.toNat_natCast,Nat.add_mul] at hj
  by_cases h:j<L*pat.length
  ·obtain⟨ck,h1,h2⟩:=hr.2.2 j (by rw[hn]; simpa using h)
   refine⟨ck,h1,?_⟩
   rw[hold j h]
   simp only[List.getElem?_toArray] at h2 ⊢
   rw[List.getElem?_append_left (by omega)] at h2
   rw[List.append_assoc,List.getElem?_append_left (by omega)]
   exact h2
  ·obtain⟨ck,h1,h2⟩:=hnew (j-L*pat.length) (by omega)
   have e:j % pat.length=(j-L*pat.length) % pat.length:=by
    have:j=(j-L*pat.length)+L*pat.length:=by omega
    rw[this,Nat.add_mul_mod_self_right]
    congr 1; omega
   refine⟨ck,by rw[e]; exact h1,?_⟩
   have e2:L*pat.length+(j-L*pat.length)=j:=by omega
   rw[e2] at h2
   simp only[List.getElem?_toArray]
   rw[List.append_assoc,List.getElem?_append_right (by omega),hA,List.getElem?_append_left (by omega)]
   exact h2
end Go.Ev
