/- Ev, part I: slices of slices, make, append. -/
import Derived.Test.YtmmehhibkpfghaaGreatEvH
set_option linter.unusedVariables false
namespace Go.Ev
variable {P:Program} {E:Env} {G:Ctx} {H:AHeap} {w:World}
theorem VRel.slice_mk {id b:Nat}{off len cap:SI}{o:Nat}{l c:Nat}(hb:E.loc id=some b) (ho:off.den E=o) (hl:(len.den E).toNat=l) (hc:(cap.den E).toNat=c) :
  VRel E (.slice id off len cap) (.slice (some ⟨b,o,none⟩) l c):=by
 simp only[VRel]; exact⟨b,hb,by omega,by rw[ho,hl,hc]; simp⟩
theorem add_off {off l:SI}{n q m:Nat}(hq:off.den E=q) (hm:l.den E=m):(mkAdd off (mkMul l (.lit n))).den E=((q+m*n:Nat):Int):=by
 rw[mkAdd_den,mkMul_den,hq,hm]; simp only[SI.den]; push_cast; rfl
theorem slice_tail {b o n l h m:Nat}{c:Prop} [Decidable c] {id:Nat}{off lo hi cp:SI}(hb:E.loc id=some b) (ho:off.den E=o) (hl:lo.den E=l) (hh:hi.den E=h) (hm:cp.den E=m) :
  (c→VRel E (.slice id off (mkSub hi lo) (mkSub cp lo)) (.slice (if c then some ⟨b,o,none⟩ else (some (⟨b,o,none⟩:Addr)).map (·.add (l*n))) ((h:Int)-l).toNat ((m:Int)-l).toNat)) ∧
  (¬ c→VRel E (.slice id (mkAdd off (mkMul lo (.lit n))) (mkSub hi lo) (mkSub cp lo)) (.slice (if c then some ⟨b,o,none⟩ else (some (⟨b,o,none⟩:Addr)).map (·.add (l*n))) ((h:Int)-l).toNat ((m:Int)-l).toNat)):=by
 refine⟨fun hc=>?_,fun hc=>?_⟩
 ·rw[if_pos hc]
  exact VRel.slice_mk hb ho (by rw[mkSub_den,hh,hl]) (by rw[mkSub_den,hm,hl])
 ·rw[if_neg hc]
  simp only[Option.map_some,add_none]
  exact VRel.slice_mk hb (add_off ho hl) (by rw[mkSub_den,hh,hl]) (by rw[mkSub_den,hm,hl])
theorem nat_of (a:SI) (h:0≤a.den E):∃ n:Nat,a.den E=n:=Int.eq_ofNat_of_zero_le h
theorem slice_V (hG:G.Ok E) {t:TypeId}{x:AV}{v:Value}{lo hi mx:Option SI}{lov hiv mxv:Option Value}(hx:VRel E x v) (hlo:numRel E lo lov) (hhi:numRel E hi hiv) (hmx:numRel E mx mxv) :
  OutV P E H w (sliceA P G t x lo hi mx) (Instr.sliceAt t v lov hiv mxv):=by
 have rlo:=numRel_lo hlo
 unfold sliceA
 split
 case h_2=>trivial
 rename_i e hu
 split
 case h_2=>trivial
 rename_i n hn
 have rhi:∀ (len:Nat) (d:SI),d.den E=len→mxv=none→(hiv=none∧mxv=none∧(hi.getD d).den E=(len:Int))∨∃ k,hiv=some (.int k ((hi.getD d).den E)):=by
  intro len d hd hm0
  cases hi with
  | none=>exact .inl ⟨hhi,hm0,by simpa using hd⟩
  | some q=>obtain⟨k,rfl⟩:=hhi; exact .inr ⟨k,rfl⟩
 split
 ·-- slice,no max
  rename_i id off len cap
  simp only[VRel] at hx
  obtain⟨b,hb,ho,rfl⟩:=hx
  have hm0:mxv=none:=hmx
  refine withB_V hG (fun _=>trivial) (fun h0=>withB_V hG (fun _=>trivial) (fun h1=>withB_V hG (fun _=>trivial) (fun h2=>?_)))
  rw[mkLss_den hG] at h0 h1 h2
  have h0:=Int.not_lt.1 (of_decide_eq_false h0)
  have h1:=Int.not_lt.1 (of_decide_eq_false h1)
  have h2:=Int.not_lt.1 (of_decide_eq_false h2)
  simp only[SI.den] at h0
  obtain⟨l,hl⟩:=nat_of (E:=E) _ h0
  obtain⟨h,hh⟩:=nat_of (E:=E) _ (Int.le_trans h0 h1)
  obtain⟨m,hm⟩:=nat_of (E:=E) cap (by omega)
  obtain⟨q,hq⟩:=nat_of (E:=E) off ho
  have hrun:=slice_run (P:=P) (w:=w) (base:=some ⟨b,(off.den E).toNat,none⟩) (len:=(len.den E).toNat) (cap:=(cap.den E).toNat) (l:=l) (h:=h) (m:=m) hu hn
   (by rw[← hl]; exact rlo) (.inl ⟨hm0,by rw[hm]; simp⟩)
   (by
    cases hi with
    | none=>exact .inl ⟨hhi,hm0,by rw[← hh]; simp only[Option.getD_none] at hh ⊢; omega⟩
    | some p=>obtain⟨k,hk⟩:=hhi; exact .inr ⟨k,by rw[← hh]; simpa using hk⟩) (by omega) (by omega) (by omega) (by omega)
  have hq':(off.den E).toNat=q:=by omega
  rw[hq'] at hrun ⊢
  obtain⟨t1,t2⟩:=slice_tail (c:=((m:Int)=l)) (n:=n) hb hq hl hh hm
  refine withB_V hG (fun hc=>?_) (fun hc=>?_)
  ·rw[mkEql_den hG,hl,hm] at hc
   exact⟨_,t1 (by simpa using hc),by simpa using hrun⟩
  ·rw[mkEql_den hG,hl,hm] at hc
   exact⟨_,t2 (by simpa using hc),by simpa using hrun⟩
 ·-- slice,max
  rename_i id off len cap mm
  simp only[VRel] at hx
  obtain⟨b,hb,ho,rfl⟩:=hx
  split
  case h_2=>trivial
  rename_i hh0
  obtain⟨km,rfl⟩:=hmx
  obtain⟨kh,rfl⟩:=hhi
  refine withB_V hG (fun _=>trivial) (fun h0=>withB_V hG (fun _=>trivial) (fun h1=>withB_V hG (fun _=>trivial) (fun h2=>withB_V hG (fun _=>trivial) (fun h3=>?_))))
  rw[mkLss_den hG] at h0 h1 h2 h3
  have h0:=Int.not_lt.1 (of_decide_eq_false h0)
  have h1:=Int.not_lt.1 (of_decide_eq_false h1)
  have h2:=Int.not_lt.1 (of_decide_eq_false h2)
  have h3:=Int.not_lt.1 (of_decide_eq_false h3)
  simp only[SI.den] at h0
  obtain⟨l,hl⟩:=nat_of (E:=E) _ h0
  obtain⟨h,hh⟩:=nat_of (E:=E) _ (Int.le_trans h0 h1)
  obtain⟨m,hm⟩:=nat_of (E:=E) mm (by omega)
  obtain⟨q,hq⟩:=nat_of (E:=E) off ho
  have hrun:=slice_run (P:=P) (w:=w) (base:=some ⟨b,(off.den E).toNat,none⟩) (len:=(len.den E).toNat) (cap:=(cap.den E).toNat) (l:=l) (h:=h) (m:=m) hu hn
   (by rw[← hl]; exact rlo) (.inr ⟨km,by rw[← hm]⟩) (.inr ⟨kh,by rw[← hh]⟩) (by omega) (by omega) (by omega) (by omega)
  have hq':(off.den E).toNat=q:=by omega
  rw[hq'] at hrun ⊢
  obtain⟨t1,t2⟩:=slice_tail (c:=((m:Int)=l)) (n:=n) hb hq hl hh hm
  refine withB_V hG (fun hc=>?_) (fun hc=>?_)
  ·rw[mkEql_den hG,hl,hm] at hc
   exact⟨_,t1 (by simpa using hc),by simpa using hrun⟩
  ·rw[mkEql_den hG,hl,hm] at hc
   exact⟨_,t2 (by simpa using hc),by simpa using hrun⟩
 ·-- slack,max
  rename_i id skip size' len m
  simp only[VRel] at hx
  obtain⟨b,hb,hcap,rfl⟩:=hx
  split
  case h_2=>trivial
  rename_i l h hlo'
  obtain⟨km,rfl⟩:=hmx
  obtain⟨kh,rfl⟩:=hhi
  split
  case isFalse=>trivial
  rename_i hc
  obtain⟨rfl,h1,h2,h3⟩:=hc
  have hl:(lo.getD (.lit 0)).den E=(l:Int):=by rw[hlo']; rfl
  have hrun:=slice_run (P:=P) (w:=w) (base:=some ⟨b,skip*size',none⟩) (len:=len) (cap:=E.cap id-skip) (l:=l) (h:=h) (m:=m) hu hn
   (by rw[← hl]; exact rlo) (.inr ⟨km,rfl⟩) (.inr ⟨kh,rfl⟩) (by omega) (by omega) (by omega) (by omega)
  refine⟨_,?_,hrun⟩
  by_cases e:m=l
  ·rw[if_pos e,if_pos (by omega)]
   exact VRel.slice_mk hb (by simp [SI.den]) (by simp [SI.den]) (by simp [SI.den])
  ·rw[if_neg e,if_neg (by omega)]
   simp only[Option.map_some,add_none]
   exact VRel.slice_mk hb (by simp only[SI.den,Int.toNat_natCast,Nat.add_mul]) (by simp [SI.den]) (by simp [SI.den])
 ·-- slack,no max
  rename_i id skip size' len
  simp only[VRel] at hx
  obtain⟨b,hb,hcap,rfl⟩:=hx
  have hm0:mxv=none:=hmx
  split
  case h_2=>trivial
  rename_i l h hlo' hhi'
  split
  case isFalse=>trivial
  rename_i hc
  obtain⟨rfl,h1,h2⟩:=hc
  have hl:(lo.getD (.lit 0)).den E=(l:Int):=by rw[hlo']; rfl
  have hh:(hi.getD (.lit len)).den E=(h:Int):=by rw[hhi']; rfl
  have hrun:=slice_run (P:=P) (w:=w) (base:=some ⟨b,skip*size',none⟩) (len:=len) (cap:=E.cap id-skip) (l:=l) (h:=h) (m:=((E.cap id-skip:Nat):Int)) hu hn
   (by rw[← hl]; exact rlo) (.inl ⟨hm0,rfl⟩)
   (by have:=rhi len (.lit len) rfl hm0; rw[hh] at this; exact this) (by omega) (by omega) (by omega) (by omega)
  split
  ·rename_i hlt
   refine⟨_,?_,hrun⟩
   rw[if_neg (by omega)]
   simp only[Option.map_some,add_none,VRel]
   refine⟨b,hb,by omega,?_⟩
   have e1:((h:Int)-l).toNat=h-l:=by omega
   have e2:(((E.cap id-skip:Nat):Int)-l).toNat=E.cap id-(skip+l):=by omega
   rw[e1,e2,Int.toNat_natCast,Nat.add_mul]
  ·rename_i hlt
   refine⟨_,?_,hrun⟩
   simp only[VRel]
   have e1:((h:Int)-l).toNat=0:=by omega
   rw[e1]
   by_cases e:((E.cap id-skip:Nat):Int)=(l:Int)
   ·rw[if_pos e]; exact⟨_,_,by simp,rfl⟩
   ·rw[if_neg e]; exact⟨_,_,by simp,rfl⟩
 ·-- a slice of open length,no max
  rename_i id size' len
  simp only[VRel] at hx
  obtain⟨b,hb,h0,hcap,rfl⟩:=hx
  have hm0:mxv=none:=hmx
  obtain⟨L,hL⟩:=nat_of (E:=E) _ h0
  split
  ·rename_i h hlo'
   obtain⟨kh,rfl⟩:=hhi
   split
   case isFalse=>trivial
   rename_i hsz
   have hl:(lo.getD (.lit 0)).den E=((0:Nat):Int):=by rw[hlo']; rfl
   refine withB_V hG (fun _=>trivial) (fun h1=>withB_V hG (fun _=>trivial) (fun h2=>?_))
   rw[mkLss_den hG] at h1 h2
   have h1:=Int.not_lt.1 (of_decide_eq_false h1)
   have h2:=Int.not_lt.1 (of_decide_eq_false h2)
   simp only[SI.den] at h1
   obtain⟨q,hq⟩:=nat_of (E:=E) _ h1
   have hrun:=slice_run (P:=P) (w:=w) (base:=some ⟨b,0,none⟩) (len:=(len.den E).toNat) (cap:=E.cap id) (l:=((0:Nat):Int)) (h:=q) (m:=(E.cap id:Int)) hu hn
    (by rw[← hl]; exact rlo) (.inl ⟨hm0,rfl⟩) (.inr ⟨kh,by rw[← hq]⟩) (by omega) (by omega) (by omega) (by omega)
   refine⟨_,?_,hrun⟩
   simp only[VRel]
   refine⟨b,hb,h1,by omega,?_⟩
   rw[hq]
   by_cases e:(E.cap id:Int)=((0:Nat):Int)
   ·rw[if_pos e]; simp
   ·rw[if_neg e]; simp [Addr.add]
  ·rename_i hlo'
   split
   case isFalse=>trivial
   have hl:(lo.getD (.lit 0)).den E=((0:Nat):Int):=by rw[hlo']; rfl
   have hrun:=slice_run (P:=P) (w:=w) (base:=some ⟨b,0,none⟩) (len:=(len.den E).toNat) (cap:=E.cap id) (l:=((0:Nat):Int)) (h:=L) (m:=(E.cap id:Int)) hu hn
    (by rw[← hl]; exact rlo) (.inl ⟨hm0,rfl⟩) (.inl ⟨hhi,hm0,by omega⟩) (by omega) (by omega) (by omega) (by omega)
   refine⟨_,?_,hrun⟩
   simp only[VRel]
   refine⟨b,hb,h0,hcap,?_⟩
   rw[hL]
   by_cases e:(E.cap id:Int)=((0:Nat):Int)
   ·rw[if_pos e]; simp
   ·rw[if_neg e]; simp [Addr.add]
  ·trivial
 ·-- a slice of open length,max
  rename_i id size' len m
  simp only[VRel] at hx
  obtain⟨b,hb,h0,hcap,rfl⟩:=hx
  split
  case h_2=>trivial
  rename_i h hlo'
  obtain⟨km,rfl⟩:=hmx
  obtain⟨kh,rfl⟩:=hhi
  split
  case isFalse=>trivial
  rename_i hsz
  have hl:(lo.getD (.lit 0)).den E=((0:Nat):Int):=by rw[hlo']; rfl
  refine withB_V hG (fun _=>trivial) (fun h1=>withB_V hG (fun _=>trivial) (fun h2=>withB_V hG (fun _=>trivial) (fun h3=>?_)))
  rw[mkLss_den hG] at h1 h2 h3
  have h1:=Int.not_lt.1 (of_decide_eq_false h1)
  have h2:=Int.not_lt.1 (of_decide_eq_false h2)
  have h3:=Int.not_lt.1 (of_decide_eq_false h3)
  simp only[SI.den] at h1
  obtain⟨q,hq⟩:=nat_of (E:=E) _ h1
  obtain⟨M,hM⟩:=nat_of (E:=E) m (by omega)
  have hrun:=slice_run (P:=P) (w:=w) (base:=some ⟨b,0,none⟩) (len:=(len.den E).toNat) (cap:=E.cap id) (l:=((0:Nat):Int)) (h:=q) (m:=M) hu hn
   (by rw[← hl]; exact rlo) (.inr ⟨km,by rw[← hM]⟩) (.inr ⟨kh,by rw[← hq]⟩) (by omega) (by omega) (by omega) (by omega)
  refine⟨_,?_,hrun⟩
  have key:∀ (o:Nat) {l' c':Nat},o=0→l'=q→c'=M→VRel E (.slice id (.lit 0) h m) (.slice (some ⟨b,o,none⟩) l' c'):=fun o l' c' ho hl' hc'=>by
   subst ho; subst hl'; subst hc'
   exact VRel.slice_mk hb (by simp [SI.den]) (by rw[hq]; simp) (by rw[hM]; simp)
  by_cases e:(M:Int)=((0:Nat):Int)
  ·rw[if_pos e]; exact key 0 rfl (by omega) (by omega)
  ·rw[if_neg e]; simp only[Option.map_some,add_none]; exact key _ (by simp) (by omega) (by omega)
 ·-- empty,max 0
  rename_i full
  simp only[VRel] at hx
  obtain⟨a,c,hf,rfl⟩:=hx
  split
  case h_2=>trivial
  rename_i hlo'
  obtain⟨km,rfl⟩:=hmx
  obtain⟨kh,rfl⟩:=hhi
  have hl:(lo.getD (.lit 0)).den E=(0:Int):=by rw[hlo']; rfl
  have hrun:=slice_run (P:=P) (w:=w) (base:=some a) (len:=0) (cap:=c) (l:=0) (h:=0) (m:=0) hu hn
   (by rw[hl] at rlo; exact rlo) (.inr ⟨km,rfl⟩) (.inr ⟨kh,rfl⟩) (by omega) (by omega) (by omega) (by omega)
  exact⟨_,by simp only[VRel]; exact⟨a,0,by simp,rfl⟩,by simpa [SI.den] using hrun⟩
 ·-- empty,no max
  rename_i full
  simp only[VRel] at hx
  obtain⟨a,c,hf,rfl⟩:=hx
  have hm0:mxv=none:=hmx
  split
  case h_2=>trivial
  rename_i hlo' hhi'
  have hl:(lo.getD (.lit 0)).den E=(0:Int):=by rw[hlo']; rfl
  have hh:(hi.getD (.lit 0)).den E=(0:Int):=by rw[hhi']; rfl
  have hrun:=slice_run (P:=P) (w:=w) (base:=some a) (len:=0) (cap:=c) (l:=0) (h:=0) (m:=(c:Int)) hu hn
   (by rw[hl] at rlo; exact rlo) (.inl ⟨hm0,rfl⟩)
   (by have:=rhi 0 (.lit 0) rfl hm0; rw[hh] at this; exact this) (by omega) (by omega) (by omega) (by omega)
  refine⟨_,?_,hrun⟩
  simp only[VRel]
  by_cases e:(c:Int)=0
  ·rw[if_pos e]; exact⟨a,c,hf,by simp⟩
  ·rw[if_neg e]; exact⟨_,c,hf,by simp; rfl⟩
 ·-- nil,no max
  simp only[VRel] at hx; subst hx
  have hm0:mxv=none:=hmx
  split
  case h_2=>trivial
  rename_i hlo' hhi'
  have hl:(lo.getD (.lit 0)).den E=(0:Int):=by rw[hlo']; rfl
  have hh:(hi.getD (.lit 0)).den E=(0:Int):=by rw[hhi']; rfl
  have hrun:=slice_run (P:=P) (w:=w) (base:=none) (len:=0) (cap:=0) (l:=0) (h:=0) (m:=0) hu hn
   (by rw[hl] at rlo; exact rlo) (.inl ⟨hm0,rfl⟩)
   (by have:=rhi 0 (.lit 0) rfl hm0; rw[hh] at this; exact this) (by omega) (by omega) (by omega) (by omega)
  exact⟨.slice none 0 0,by simp only[VRel],by simpa [SI.den] using hrun⟩
 ·-- nil,max
  rename_i m
  simp only[VRel] at hx; subst hx
  split
  case h_2=>trivial
  rename_i hlo'
  obtain⟨km,rfl⟩:=hmx
  obtain⟨kh,rfl⟩:=hhi
  have hl:(lo.getD (.lit 0)).den E=(0:Int):=by rw[hlo']; rfl
  have hrun:=slice_run (P:=P) (w:=w) (base:=none) (len:=0) (cap:=0) (l:=0) (h:=0) (m:=0) hu hn
   (by rw[hl] at rlo; exact rlo) (.inr ⟨km,rfl⟩) (.inr ⟨kh,rfl⟩) (by omega) (by omega) (by omega) (by omega)
  exact⟨.slice none 0 0,by simp only[VRel],by simpa [SI.den] using hrun⟩
 ·trivial
theorem replicate_rel {z:AV}{v:Value}(h:VRel E z v) (n:Nat):∀ i,i<n→∃ u,(Array.replicate n v)[i]?=some u∧VRel E z u :=
 fun i hi=>⟨v,by simp [hi],h⟩
theorem makeSlice_run {t e:TypeId}{k k':IntKind}{l c:Nat}{i:TypeInfo}(hu:P.underlying t=some (.slice e)) (hi:P.info? e=some i) (b1:l≤c) (b2:c≤2 ^ 26) (b3:i.bytes≤4096) :
  ∀ (zv:Value),i.zero=some zv→(Instr.makeSlice t (.int k ((l:Nat):Int)) (.int k' ((c:Nat):Int))).run P w =
   .ok (.slice (some ⟨w.heap.size,0,none⟩) l c) { w with heap:=w.heap.push (.cells ((Array.range (c*i.size)).map ((if c*i.size=0 then #[] else zv.cells)[· % (if c*i.size=0 then #[] else zv.cells).size]!)) e) }:=by
 have hw1:IntKind.i64.wrap ((l:Nat):Int)=l:=wrap_self _ _ (by simp [IntKind.min,IntKind.signed,IntKind.bits]) (by simp [IntKind.max,IntKind.signed,IntKind.bits]; omega)
 have hw2:IntKind.i64.wrap ((c:Nat):Int)=c:=wrap_self _ _ (by simp [IntKind.min,IntKind.signed,IntKind.bits]) (by simp [IntKind.max,IntKind.signed,IntKind.bits]; omega)
 have hinfo:(typeInfo e).run P w=.ok i w:=by simp [typeInfo,hi]
 have hmul:i.bytes*c≤4096*2 ^ 26:=Nat.mul_le_mul b3 b2
 have hsmall:¬ ((i.bytes:Int)*(c:Int) > 2 ^ 48):=by
  have:(i.bytes:Int)*(c:Int)=((i.bytes*c:Nat):Int):=by push_cast; rfl
  rw[this]; omega
 intro zv hz
 have hz':(zeroValue e).run P w=.ok zv w:=by simp [zeroValue,hinfo,hz]
 have hs':(sizeOf e).run P w=.ok i.size w:=by simp [sizeOf,hinfo]
 have hneg:¬ ((c:Int)<0):=by omega
 have hneg':¬ ((l:Int)<0):=by omega
 have hlc:¬ ((l:Int) > (c:Int)):=by omega
 simp only[Instr.makeSlice,underlying_ok hu,Sem.run_bind,Result.andThen_ok,asInt,asIntOf,Sem.run_pure,hinfo,hw1,hw2]
 simp only[hneg,hneg',hlc,hsmall,decide_false,Bool.or_false,Bool.false_eq_true,if_false,Int.toNat_natCast,run_askRoom,Result.andThen_ok,hs',Sem.run_bind]
 by_cases h0:c*i.size=0
 ·simp [h0,newRow]
 ·simp [h0,newRow,hz']
theorem patOf_ok:∀ {cs:List AV}{pat:List CK}{vs:List Value},patOf cs=some pat→VRelL E cs vs→vs=pat.map (·.val 0)
 | [],pat,vs,h,hv=>by simp [patOf] at h; subst h; simp only[VRelL] at hv; subst hv; rfl
 | c::cs,pat,vs,h,hv=>by
  simp only[VRelL] at hv
  obtain⟨y,ys,hy,hys,rfl⟩:=hv
  unfold patOf at h
  split at h
  ·rename_i e; simp at e
  ·rename_i k r e
   simp at e; obtain⟨rfl,rfl⟩:=e
   simp at h
   obtain⟨p,hp,rfl⟩:=h
   have hw:k.wrap 0=0:=by cases k <;> decide
   rw[List.map_cons,← patOf_ok hp hys,VRel.int_inv hy]
   simp [CK.val,SI.den,hw]
  ·rename_i r e
   simp at e; obtain⟨rfl,rfl⟩:=e
   simp at h
   obtain⟨p,hp,rfl⟩:=h
   simp only[VRel] at hy; subst hy
   rw[List.map_cons,← patOf_ok hp hys]
   simp only[CK.val,SB.den]
   have:(IntKind.i64.wrap 0 == 1)=false:=by decide
   rw[this]
  ·simp at h
theorem cells_zero {pat:List CK}{z:Array Value}(h:z.toList=pat.map (·.val 0)) (c size:Nat) (hs:pat.length=size) (j:Nat) (hj:j<c*size) :
  ∃ ck,pat[j % size]?=some ck∧((Array.range (c*size)).map ((if c*size=0 then #[] else z)[· % (if c*size=0 then (#[]:Array Value) else z).size]!))[j]?=some (ck.val 0):=by
 have h0:¬ c*size=0:=by omega
 have hsz:0<size:=Nat.pos_of_ne_zero fun e=>by rw[e] at hj; simp at hj
 have hz:z.size=size:=by rw[← hs,← Array.length_toList,h]; simp
 have hm:j % size<pat.length:=by rw[hs]; exact Nat.mod_lt _ hsz
 refine⟨pat[j % size],by simp [hm],?_⟩
 simp only[h0,if_false,hz]
 rw[Array.getElem?_map,Array.getElem?_range,if_pos hj]
 simp only[Option.map_some,Option.some.injEq]
 have hl:z.toList[j % size]?=some (pat[j % size].val 0):=by rw[h]; simp [hm]
 have:z[j % size]?=some (pat[j % size].val 0):=by simpa using hl
 rw[getElem!_def,this]
theorem makeRow_V (hH:HRel E H w) (hG:G.Ok E) {t e:TypeId}{k k':IntKind}{l c:SI}(hu:P.underlying t=some (.slice e)) :
  OutV P E H w (makeRowA P G H e l c) (Instr.makeSlice t (.int k (l.den E)) (.int k' (c.den E))):=by
 unfold makeRowA
 split
 case h_2=>trivial
 rename_i i hi
 split
 case h_2=>trivial
 rename_i z hz
 split
 case h_2=>trivial
 rename_i pat r hpat hr
 split
 case isFalse=>trivial
 rename_i hcond
 obtain⟨rfl,hps,hs0,hb,hr2⟩:=hcond
 refine withB_V hG (fun _=>trivial) (fun h0=>?_)
 rw[mkLss_den hG] at h0
 have h0:=Int.not_lt.1 (of_decide_eq_false h0)
 simp only[SI.den] at h0
 obtain⟨L,hL⟩:=nat_of (E:=E) _ h0
 have hrg:=SI.range_ok hG hr
 simp only[Option.bind_eq_some_iff] at hz
 obtain⟨zv,hz1,hz2⟩:=hz
 have hzr:VRel E z zv:=ofConst_ok hz2
 have hzc:=patOf_ok hpat (AV.cells_ok hzr (ofConst_notRaw hz2))
 have hrun:=makeSlice_run (w:=w) (k:=k) (k':=k') hu hi (Nat.le_refl L) (by omega) hb zv hz1
 rw[hL]
 refine⟨_,_,_,EffOK.new hH 0 (o:=.cells _ e) ⟨_,_,_,rfl,fun _=>⟨rfl,rfl⟩,⟨?_,?_,?_⟩,fun _=>?_,fun h=>by simp at h⟩,VRel.slice_mk (b:=w.heap.size) (o:=0) (l:=L) (c:=L) (by simp [Env.ext]) (by simp [SI.den]) ?_ ?_,hrun⟩
 ·have:(l.den (E.ext H.next w.heap.size 0))=l.den E:=SI.den_le (Env.le_ext (hH.fresh _ (Nat.le_refl _))) l
  rw[this,hL]; omega
 ·have:(l.den (E.ext H.next w.heap.size 0))=l.den E:=SI.den_le (Env.le_ext (hH.fresh _ (Nat.le_refl _))) l
  rw[this,hL,hps]; simp
 ·have:(l.den (E.ext H.next w.heap.size 0))=l.den E:=SI.den_le (Env.le_ext (hH.fresh _ (Nat.le_refl _))) l
  rw[this,hL,hps]
  intro j hj
  exact cells_zero hzc L i.size hps j (by simpa using hj)
 ·have:(l.den (E.ext H.next w.heap.size 0))=l.den E:=SI.den_le (Env.le_ext (hH.fresh _ (Nat.le_refl _))) l
  rw[this,hL,hps]; simp
 ·have:(l.den (E.ext H.next w.heap.size 0))=l.den E:=SI.den_le (Env.le_ext (hH.fresh _ (Nat.le_refl _))) l
  rw[this,hL]; simp
 ·have:(l.den (E.ext H.next w.heap.size 0))=l.den E:=SI.den_le (Env.le_ext (hH.fresh _ (Nat.le_refl _))) l
  rw[this,hL]; simp
theorem makeSliceL_V (hH:HRel E H w) {t e:TypeId}{k k':IntKind}{l c:Nat}(hu:P.underlying t=some (.slice e)) :
  OutV P E H w (makeSliceL P H e l c) (Instr.makeSlice t (.int k ((l:Nat):Int)) (.int k' ((c:Nat):Int))):=by
 unfold makeSliceL
 split
 case h_2=>trivial
 rename_i i hi
 split
 case isFalse=>trivial
 rename_i hb
 obtain⟨b1,b2,b3⟩:=hb
 have hrun:=makeSlice_run (w:=w) (k:=k) (k':=k') hu hi b1 b2 b3
 split
 ·rename_i z hsz hz
  simp only[Option.bind_eq_some_iff] at hz
  obtain⟨zv,hz1,hz2⟩:=hz
  have hzr:VRel E z zv:=ofConst_ok hz2
  split
  case h_2=>trivial
  rename_i y hzy
  split
  case isFalse=>trivial
  rename_i hone
  have hzl:=AV.cells_ok hzr (ofConst_notRaw hz2)
  rw[hzy] at hzl
  simp only[VRelL] at hzl
  obtain⟨yv,_,hyr,rfl,hcl⟩:=hzl
  have hcell:zv.cells=#[yv]:=by
   apply Array.toList_inj.1; rw[hcl]
  have hr:=hrun zv hz1
  rw[hsz,Nat.mul_one,hcell] at hr
  have harr:(Array.range c).map ((if c=0 then #[] else #[yv])[· % (if c=0 then (#[]:Array Value) else #[yv]).size]!)=Array.replicate c yv:=by
   apply Array.ext
   ·simp
   ·intro j h1 h2
    simp at h1
    have:¬ c=0:=by omega
    simp [this,Nat.mod_one]
  rw[harr] at hr
  have hle:E.le (E.ext H.next w.heap.size 0):=Env.le_ext (hH.fresh _ (Nat.le_refl _))
  split
  ·refine⟨_,_,_,EffOK.new hH 0 (o:=.cells (Array.replicate c yv) e) ⟨(Array.replicate c yv).toList,?_,by simp⟩,VRel.slice_mk (b:=w.heap.size) (by simp [Env.ext]) rfl rfl rfl,hr⟩
   have:∀ n,VRelL E (repeatL [y] n) (List.replicate n yv):=by
    intro n
    induction n with
    | zero=>simp [repeatL,VRelL]
    | succ n ih=>simpa [repeatL,List.replicate_succ] using VRelL.cons hyr ih
   simpa using (this c).le hle
  ·refine⟨_,_,_,EffOK.new hH 0 (o:=.cells (Array.replicate c yv) e) ⟨_,rfl,by simp,fun j hj=>?_⟩,VRel.slice_mk (b:=w.heap.size) (by simp [Env.ext]) rfl rfl rfl,hr⟩
   simpa [Tr.get_nil] using replicate_rel (hyr.le hle) c j hj
 ·rename_i n z hz hne
  simp only[Option.bind_eq_some_iff] at hz
  obtain⟨zv,hz1,hz2⟩:=hz
  have hzr:VRel E z zv:=ofConst_ok hz2
  split
  case isFalse=>trivial
  rename_i hcond
  have hcells:=AV.cells_ok hzr (ofConst_notRaw hz2)
  have hsz:zv.cells.size=i.size:=by rw[← hcond.1,← hcells.length]; simp
  have hr:=hrun zv hz1
  have hle:E.le (E.ext H.next w.heap.size 0):=Env.le_ext (hH.fresh _ (Nat.le_refl _))
  have hrel:=repeatL_ok hcells c
  have key:VRelL E (repeatL z.cells c) ((Array.range (c*i.size)).map ((if c*i.size=0 then #[] else zv.cells)[· % (if c*i.size=0 then (#[]:Array Value) else zv.cells).size]!)).toList:=by
   by_cases h0:c*i.size=0
   ·have hc0:c=0:=by
     rcases Nat.mul_eq_zero.1 h0 with h | h
     ·exact h
     ·exact absurd h hcond.2
    have e0:Array.range (c*i.size)=#[]:=by rw[h0]; simp
    rw[Array.toList_map,e0,hc0]
    simp only[repeatL,VRelL,List.map_nil]
   ·simp only[h0,if_false]
    rw[hsz] at hrel ⊢
    exact hrel
  generalize (Array.range (c*i.size)).map ((if c*i.size=0 then #[] else zv.cells)[· % (if c*i.size=0 then (#[]:Array Value) else zv.cells).size]!)=arr at key hr
  exact⟨_,_,_,EffOK.new hH 0 (o:=.cells arr e) ⟨arr.toList,key.le hle,by simp⟩,VRel.slice_mk (b:=w.heap.size) (by simp [Env.ext]) rfl rfl rfl,hr⟩
 ·trivial
theorem makeSlice_V (hH:HRel E H w) (hG:G.Ok E) {t:TypeId}{l c:AV}{lv cv:Value}(hl:VRel E l lv) (hc:VRel E c cv) :
  OutV P E H w (makeSliceA P G H t l c) (Instr.makeSlice t lv cv):=by
 unfold makeSliceA
 split
 case h_3=>trivial
 case h_2 =>
  rename_i e k l k' c _ hu
  simp only[VRel] at hl hc
  subst hl; subst hc
  exact makeRow_V hH hG hu
 rename_i e k l k' c hu
 simp only[VRel] at hl hc
 subst hl; subst hc
 have h1:=makeSliceL_V (P:=P) hH (k:=k) (k':=k') (l:=l) (c:=c) hu
 cases hb:bigRow l c with
 | false=>exact h1
 | true =>
  have h2:=makeRow_V (P:=P) hH hG (k:=k) (k':=k') (l:=.lit l) (c:=.lit c) hu
  simp only[cond_true]
  split
  ·exact h1
  ·exact h2
theorem makeSliceQ_V (hH:HRel E H w) (hG:G.Ok E) {t:TypeId}{l c:AV}{lv cv:Value}(hl:VRel E l lv) (hc:VRel E c cv) :
  OutV P E H w (makeSliceQ P G H t l c) (Instr.makeSlice t lv cv):=by
 have h:=makeSlice_V (P:=P) hH hG (t:=t) hl hc
 unfold makeSliceQ
 split
 ·split
  ·rename_i k l k' c
   split
   ·rename_i e
    subst e
    refine pinned_V hG fun n hn=>?_
    have hl':=VRel.int_inv hl; have hc':=VRel.int_inv hc
    exact makeSlice_V (P:=P) hH hG (by simp only[VRel,SI.den]; rw[hl',hn]) (by simp only[VRel,SI.den]; rw[hc',hn])
   ·trivial
  ·trivial
 ·exact h
end Go.Ev
