/- Ev, part H: slices, calls, and every operation. -/
import Derived.Test.YtmmehhibkpfghaaGreatEvG
set_option linter.unusedVariables false
namespace Go.Ev
variable {P:Program} {E:Env} {G:Ctx} {H:AHeap} {w:World}
theorem indexAt_run {t:TypeId}{k:IntKind}{i:Int}{x:Value}{a:Addr}{len:Nat}{elem:TypeId}{n:Nat}(hs:sizeB P elem=some n)
  (h:(P.underlying t=some (.slice elem)∧∃ c,x=.slice (some a) len c)∨(P.underlying t=some (.array len elem)∧x=.pointer (some a))) (h0:0≤i) (h1:i<(len:Int)) :
  (Instr.indexAt t x (.int k i)).run P w=.ok (.pointer (some (a.add (i.toNat*n)))) w:=by
 rcases h with ⟨hu,c,rfl⟩ | ⟨hu,rfl⟩
 ·simp [Instr.indexAt,asIntOf,underlying_ok hu,h0,h1,sizeB_ok hs]
 ·simp [Instr.indexAt,asIntOf,underlying_ok hu,h0,h1,sizeB_ok hs,Instr.sureAddr]
theorem indexAt_V (hG:G.Ok E) {t:TypeId}{x:AV}{v:Value}{k:IntKind}{i:SI}(hx:VRel E x v) :
  OutV P E H w (indexAt P G t x i) (Instr.indexAt t v (.int k (i.den E))):=by
 unfold indexAt
 simp only
 split
 ·rename_i e id off len cap hu
  split
  ·rename_i n hn
   refine withB_V hG (fun _=>trivial) (fun h0=>withB_V hG (fun h1=>?_) (fun _=>trivial))
   rw[mkLss_den hG] at h0 h1
   have h0:=Int.not_lt.1 (of_decide_eq_false h0)
   have h1:=of_decide_eq_true h1
   simp only[SI.den] at h0 h1
   simp only[VRel] at hx
   obtain⟨b,hb,ho,rfl⟩:=hx
   refine⟨.pointer (some ⟨b,(off.den E).toNat+(i.den E).toNat*n,none⟩),?_,?_⟩
   ·simp only[VRel]
    have hm:0≤i.den E*(n:Int):=Int.mul_nonneg h0 (by omega)
    refine⟨b,hb,?_,?_⟩
    ·rw[mkAdd_den,mkMul_den]; simp only[SI.den]; omega
    ·rw[mkAdd_den,mkMul_den]; simp only[SI.den]
     congr 3
     obtain⟨m,hm'⟩:=Int.eq_ofNat_of_zero_le h0
     obtain⟨q,hq'⟩:=Int.eq_ofNat_of_zero_le ho
     rw[hm',hq']
     have:((q:Int)+(m:Int)*(n:Int))=((q+m*n:Nat):Int):=by push_cast; rfl
     rw[this]; simp only[Int.toNat_natCast]
   ·rw[indexAt_run (elem:=e) (len:=(len.den E).toNat) (a:=⟨b,(off.den E).toNat,none⟩) hn (.inl ⟨hu,_,rfl⟩) h0 (by omega),add_none]
  ·trivial
 ·rename_i e id skip size len hu
  split
  ·rename_i n hn
   refine withB_V hG (fun _=>trivial) (fun h0=>withB_V hG (fun h1=>?_) (fun _=>trivial))
   rw[mkLss_den hG] at h0 h1
   have h0:=Int.not_lt.1 (of_decide_eq_false h0)
   have h1:=of_decide_eq_true h1
   simp only[SI.den] at h0 h1
   simp only[VRel] at hx
   obtain⟨b,hb,ho,rfl⟩:=hx
   refine⟨.pointer (some ⟨b,skip*size+(i.den E).toNat*n,none⟩),?_,?_⟩
   ·simp only[VRel]
    have hm:0≤i.den E*(n:Int):=Int.mul_nonneg h0 (by omega)
    refine⟨b,hb,?_,?_⟩
    ·rw[mkAdd_den,mkMul_den]; simp only[SI.den]; omega
    ·rw[mkAdd_den,mkMul_den]; simp only[SI.den]
     congr 3
     obtain⟨m,hm'⟩:=Int.eq_ofNat_of_zero_le h0
     rw[hm']
     have:(((skip*size:Nat):Int)+(m:Int)*(n:Int))=((skip*size+m*n:Nat):Int):=by push_cast; rfl
     rw[this]; simp only[Int.toNat_natCast]
   ·rw[indexAt_run (elem:=e) (len:=len) (a:=⟨b,skip*size,none⟩) hn (.inl ⟨hu,_,rfl⟩) h0 (by omega),add_none]
  ·trivial
 ·rename_i e id size len hu
  split
  ·rename_i n hn
   refine withB_V hG (fun _=>trivial) (fun h0=>withB_V hG (fun h1=>?_) (fun _=>trivial))
   rw[mkLss_den hG] at h0 h1
   have h0:=Int.not_lt.1 (of_decide_eq_false h0)
   have h1:=of_decide_eq_true h1
   simp only[SI.den] at h0 h1
   simp only[VRel] at hx
   obtain⟨b,hb,ho,ho2,rfl⟩:=hx
   refine⟨.pointer (some ⟨b,0+(i.den E).toNat*n,none⟩),?_,?_⟩
   ·simp only[VRel]
    have hm:0≤i.den E*(n:Int):=Int.mul_nonneg h0 (by omega)
    refine⟨b,hb,?_,?_⟩
    ·rw[mkAdd_den,mkMul_den]; simp only[SI.den]; omega
    ·rw[mkAdd_den,mkMul_den]; simp only[SI.den]
     congr 3
     obtain⟨m,hm'⟩:=Int.eq_ofNat_of_zero_le h0
     rw[hm']
     have:((0:Int)+(m:Int)*(n:Int))=((0+m*n:Nat):Int):=by push_cast; rfl
     rw[this]; simp only[Int.toNat_natCast]
   ·rw[indexAt_run (elem:=e) (len:=(len.den E).toNat) (a:=⟨b,0,none⟩) hn (.inl ⟨hu,_,rfl⟩) h0 (by omega),add_none]
  ·trivial
 ·rename_i m e id off hu
  split
  ·rename_i n hn
   refine withB_V hG (fun _=>trivial) (fun h0=>withB_V hG (fun h1=>?_) (fun _=>trivial))
   rw[mkLss_den hG] at h0 h1
   have h0:=Int.not_lt.1 (of_decide_eq_false h0)
   have h1:=of_decide_eq_true h1
   simp only[SI.den] at h0 h1
   simp only[VRel] at hx
   obtain⟨b,hb,ho,rfl⟩:=hx
   refine⟨.pointer (some ⟨b,(off.den E).toNat+(i.den E).toNat*n,none⟩),?_,?_⟩
   ·simp only[VRel]
    have hm:0≤i.den E*(n:Int):=Int.mul_nonneg h0 (by omega)
    refine⟨b,hb,?_,?_⟩
    ·rw[mkAdd_den,mkMul_den]; simp only[SI.den]; omega
    ·rw[mkAdd_den,mkMul_den]; simp only[SI.den]
     congr 3
     obtain⟨m,hm'⟩:=Int.eq_ofNat_of_zero_le h0
     obtain⟨q,hq'⟩:=Int.eq_ofNat_of_zero_le ho
     rw[hm',hq']
     have:((q:Int)+(m:Int)*(n:Int))=((q+m*n:Nat):Int):=by push_cast; rfl
     rw[this]; simp only[Int.toNat_natCast]
   ·rw[indexAt_run (elem:=e) (len:=m) (a:=⟨b,(off.den E).toNat,none⟩) hn (.inr ⟨hu,rfl⟩) h0 (by omega),add_none]
  ·trivial
 ·trivial
theorem indexAddr_V (hG:G.Ok E) {t:TypeId}{x:AV}{v:Value}{k:IntKind}{i:SI}(hx:VRel E x v) :
  OutV P E H w (indexAddrA P G H t x i) (Instr.indexAt t v (.int k (i.den E))):=by
 unfold indexAddrA
 split
 ·exact indexAt_V hG hx
 ·split
  ·exact indexAt_V hG hx
  ·split
   ·trivial
   ·exact pinned_V hG fun c hc=>by
     have:=indexAt_V (P:=P) (H:=H) (w:=w) (t:=t) (k:=k) (i:=.lit c) hG hx
     simpa only[SI.den,hc] using this
def numRel (E:Env):Option SI→Option Value→Prop
 | none,v=>v=none
 | some n,v=>∃ k,v=some (.int k (n.den E))
theorem bound_run {k:IntKind}{i:Int}{y:Nat}{c:BoundsCode}(h0:0≤i) (h1:i≤(y:Int)):(Instr.sliceBound (.int k i) y c).run P w=.ok i.toNat w:=by
 simp [Instr.sliceBound,asIntOf,h0,h1]
theorem bounds_run {len cap:Nat}{lo hi mx:Option Value}{l h m:Int}(hl:(lo=none∧l=0)∨∃ k,lo=some (.int k l)) (hm:(mx=none∧m=cap)∨∃ k,mx=some (.int k m))
  (hh:(hi=none∧mx=none∧h=len)∨∃ k,hi=some (.int k h)) (c0:0≤l) (c1:l≤h) (c2:h≤m) (c3:m≤(cap:Int)) :
  (Instr.sliceBounds true len cap lo hi mx).run P w=.ok (l.toNat,h.toNat,m.toNat) w:=by
 have e1:∀ {k c},(Instr.sliceBound (.int k m) cap c).run P w=.ok m.toNat w:=bound_run (by omega) c3
 have e2:∀ {k c},(Instr.sliceBound (.int k h) m.toNat c).run P w=.ok h.toNat w:=bound_run (by omega) (by omega)
 have e3:∀ {k c},(Instr.sliceBound (.int k l) h.toNat c).run P w=.ok l.toNat w:=bound_run c0 (by omega)
 rcases hm with ⟨rfl,rfl⟩ | ⟨km,rfl⟩
 ·rcases hh with ⟨rfl,_,rfl⟩ | ⟨kh,rfl⟩
  ·rcases hl with ⟨rfl,rfl⟩ | ⟨kl,rfl⟩
   ·simp [Instr.sliceBounds]
   ·have:=@e3 kl .sliceB
    simp only[Int.toNat_natCast] at this
    simp [Instr.sliceBounds,this]
  ·have e2':∀ {k c},(Instr.sliceBound (.int k h) cap c).run P w=.ok h.toNat w:=bound_run (by omega) c2
   rcases hl with ⟨rfl,rfl⟩ | ⟨kl,rfl⟩
   ·simp [Instr.sliceBounds,e2']
   ·simp [Instr.sliceBounds,e2',e3]
 ·rcases hh with ⟨_,h2,_⟩ | ⟨kh,rfl⟩
  ·simp at h2
  ·rcases hl with ⟨rfl,rfl⟩ | ⟨kl,rfl⟩
   ·simp [Instr.sliceBounds,e1,e2]
   ·simp [Instr.sliceBounds,e1,e2,e3]
theorem slice_run {t e:TypeId}{n:Nat}{base:Option Addr}{len cap:Nat}{lo hi mx:Option Value}{l h m:Int}(hu:P.underlying t=some (.slice e)) (hs:sizeB P e=some n)
  (hl:(lo=none∧l=0)∨∃ k,lo=some (.int k l)) (hm:(mx=none∧m=cap)∨∃ k,mx=some (.int k m))
  (hh:(hi=none∧mx=none∧h=len)∨∃ k,hi=some (.int k h)) (c0:0≤l) (c1:l≤h) (c2:h≤m) (c3:m≤(cap:Int)) :
  (Instr.sliceAt t (.slice base len cap) lo hi mx).run P w =
   .ok (.slice (if m=l then base else base.map (·.add (l.toNat*n))) (h-l).toNat (m-l).toNat) w:=by
 have hb:=bounds_run (P:=P) (w:=w) hl hm hh c0 c1 c2 c3
 have e:(m.toNat=l.toNat)↔m=l:=by omega
 have e1:h.toNat-l.toNat=(h-l).toNat:=by omega
 have e2:m.toNat-l.toNat=(m-l).toNat:=by omega
 simp [Instr.sliceAt,underlying_ok hu,Instr.slice,hb,sizeB_ok hs,e,e1,e2]
theorem numRel_lo {o:Option SI}{v:Option Value}(h:numRel E o v):(v=none∧(o.getD (.lit 0)).den E=0)∨∃ k,v=some (.int k ((o.getD (.lit 0)).den E)):=by
 cases o with
 | none=>exact .inl ⟨h,rfl⟩
 | some n=>obtain⟨k,rfl⟩:=h; exact .inr ⟨k,rfl⟩
end Go.Ev
