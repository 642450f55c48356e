/- Ev, part 9: words that are made of fields: sums in place of operations on bits. -/
import Derived.Test.YtmmehhibkpfghaaGreatEvD
set_option linter.unusedVariables false
namespace Go.Ev
variable {E:Env} {G:Ctx}
theorem addP_ok:∀ (l:List (SI × Int)) (a:SI),(addP a l).den E=a.den E+denP E l
 | [],a=>by simp [addP,denP]
 | p::r,a=>by
  simp only[addP]
  rw[addP_ok r,mkAdd_den,mkMul_den]
  simp only[SI.den,denP]; omega
theorem sumP_den (l:List (SI × Int)) (c:Int):(sumP l c).den E=denP E l+c:=by
 unfold sumP
 have hs:=sortP_ok (E:=E) l
 split
 ·rename_i h; rw[h] at hs; simp only[denP] at hs; simp only[SI.den]; omega
 ·rename_i p r h
  rw[h] at hs
  rw[mkAdd_den,addP_ok,mkMul_den]
  simp only[SI.den,denP] at *; omega
theorem bndP_ok (hG:G.Ok E):∀ {l:List (SI × Int)}{c:Int}{h:Int × Int},bndP G l c=some h→h.1≤denP E l+c∧denP E l+c≤h.2
 | [],c,h,e=>by simp [bndP] at e; subst e; simp [denP]
 | p::r,c,h,e=>by
  simp only[bndP] at e
  split at e
  ·rename_i q h' hq hr
   have h1:=SI.rangeT_ok hG hq
   have h2:=bndP_ok hG hr
   split at e
   ·rename_i hc
    simp at e; subst e
    have h3:=Int.mul_le_mul_of_nonneg_right h1.1 hc
    have h4:=Int.mul_le_mul_of_nonneg_right h1.2 hc
    simp only[denP]; omega
   ·rename_i hc
    simp at e; subst e
    have h3:=Int.mul_le_mul_of_nonpos_right h1.1 (show p.2≤0 by omega)
    have h4:=Int.mul_le_mul_of_nonpos_right h1.2 (show p.2≤0 by omega)
    simp only[denP]; omega
  ·simp at e
theorem hiP_ok (hG:G.Ok E) {l:List (SI × Int)}{c h:Int}(e:hiP G l c=some h):0≤denP E l+c∧denP E l+c≤h:=by
 unfold hiP at e
 split at e
 ·rename_i q hq
  have:=bndP_ok hG hq
  split at e
  ·simp at e; subst e; omega
  ·simp at e
 ·simp at e
theorem split_den (m:Int):∀ (l:List (SI × Int)),denP E l=denP E (lowP m l)+denP E (highP m l)
 | []=>by simp [denP,lowP,highP]
 | p::r=>by
  have:=split_den m r
  simp only[lowP,highP]
  split <;> simp only[denP] <;> omega
theorem high_mul (m:Int):∀ (l:List (SI × Int)),∃ q,denP E (highP m l)=m*q∧denP E (divP m (highP m l))=denP E (highP m l) / m∨m=0
 | []=>⟨0,.inl (by simp [highP,divP,denP])⟩
 | p::r=>by
  by_cases h0:m=0
  ·exact⟨0,.inr h0⟩
  obtain⟨q,hq | hq⟩:=high_mul m r
  ·simp only[highP]
   split
   ·rename_i hp
    have e:p.2=m*(p.2 / m):=by have:=Int.mul_ediv_add_emod p.2 m; omega
    refine⟨p.1.den E*(p.2 / m)+q,.inl ⟨?_,?_⟩⟩
    ·simp only[denP]
     rw[hq.1,Int.mul_add]
     conv=>lhs; lhs; rw[e]
     rw[← Int.mul_assoc,Int.mul_comm (p.1.den E) m,Int.mul_assoc]
    ·simp only[divP,denP]
     rw[hq.2,hq.1,Int.mul_ediv_cancel_left _ h0]
     conv=>rhs; lhs; lhs; rw[e]
     rw[← Int.mul_assoc,Int.mul_comm (p.1.den E) m,Int.mul_assoc,← Int.mul_add,Int.mul_ediv_cancel_left _ h0]
   ·exact⟨q,.inl hq⟩
  ·exact absurd hq h0
theorem splitP_ok (hG:G.Ok E) {m:Int}(hm:0<m) {p L H:List (SI × Int) × Int}(h:splitP G m p=some (L,H)) :
  denP E p.1+p.2=(denP E L.1+L.2)+(denP E H.1+H.2)∧0≤denP E L.1+L.2∧denP E L.1+L.2<m∧(denP E H.1+H.2) % m=0∧denP E (divP m H.1)+H.2 / m=(denP E H.1+H.2) / m:=by
 unfold splitP at h
 split at h
 ·rename_i h' hh
  split at h
  ·rename_i hlt
   simp at h
   obtain⟨rfl,rfl⟩:=h
   have h1:=hiP_ok hG hh
   have h2:=split_den (E:=E) m p.1
   obtain⟨q,hq | hq⟩:=high_mul (E:=E) m p.1
   ·have e1:(p.2-p.2 % m)=m*(p.2 / m):=by have:=Int.mul_ediv_add_emod p.2 m; omega
    refine⟨by simp only; omega,h1.1,by simp only; omega,?_,?_⟩
    ·simp only; rw[hq.1,e1,← Int.mul_add]; exact Int.mul_emod_right _ _
    ·simp only; rw[hq.2,hq.1,e1,← Int.mul_add]
     rw[Int.mul_ediv_cancel_left _ (by omega),Int.mul_ediv_cancel_left _ (by omega),Int.mul_ediv_cancel_left _ (by omega)]
   ·omega
  ·simp at h
 ·simp at h
theorem unsigned_min {k:IntKind}(h:k.signed=false):k.min=0∧k.max=2 ^ k.bits-1:=by
 cases k <;> simp [IntKind.signed] at h <;> simp [IntKind.min,IntKind.max,IntKind.signed,IntKind.bits]
theorem ofInt_toNat {n:Nat}{x:Int}(h0:0≤x) (h:x<2 ^ n):(BitVec.ofInt n x).toNat=x.toNat:=by
 rw[BitVec.toNat_ofInt]
 rw[Int.emod_eq_of_lt h0 (by exact_mod_cast h)]
theorem bits_and {k:IntKind}(hk:k.signed=false) {x y:Int}(hx:0≤x) (hx':x<2 ^ k.bits) (hy:0≤y) (hy':y<2 ^ k.bits):bitsDen .and k x y=((x.toNat &&& y.toNat:Nat):Int):=by
 obtain⟨h1,h2⟩:=unsigned_min hk
 have e:(BitVec.ofInt k.bits x &&& BitVec.ofInt k.bits y).toNat=x.toNat &&& y.toNat:=by rw[BitVec.toNat_and,ofInt_toNat hx hx',ofInt_toNat hy hy']
 unfold bitsDen
 simp only
 rw[e,wrap_self]
 ·rw[h1]; exact Int.natCast_nonneg _
 ·have:x.toNat &&& y.toNat<2 ^ k.bits:=by rw[← e]; exact BitVec.isLt _
  rw[h2]
  have:((x.toNat &&& y.toNat:Nat):Int)<2 ^ k.bits:=by exact_mod_cast this
  omega
theorem bits_or {k:IntKind}(hk:k.signed=false) {x y:Int}(hx:0≤x) (hx':x<2 ^ k.bits) (hy:0≤y) (hy':y<2 ^ k.bits):bitsDen .or k x y=((x.toNat ||| y.toNat:Nat):Int):=by
 obtain⟨h1,h2⟩:=unsigned_min hk
 have e:(BitVec.ofInt k.bits x ||| BitVec.ofInt k.bits y).toNat=x.toNat ||| y.toNat:=by rw[BitVec.toNat_or,ofInt_toNat hx hx',ofInt_toNat hy hy']
 unfold bitsDen
 simp only
 rw[e,wrap_self]
 ·rw[h1]; exact Int.natCast_nonneg _
 ·have:x.toNat ||| y.toNat<2 ^ k.bits:=by rw[← e]; exact BitVec.isLt _
  rw[h2]
  have:((x.toNat ||| y.toNat:Nat):Int)<2 ^ k.bits:=by exact_mod_cast this
  omega
theorem bits_andNot {k:IntKind}(hk:k.signed=false) {x y:Int}(hx:0≤x) (hx':x<2 ^ k.bits) (hy:0≤y) (hy':y<2 ^ k.bits):bitsDen .andNot k x y=x-((x.toNat &&& y.toNat:Nat):Int):=by
 obtain⟨h1,h2⟩:=unsigned_min hk
 have key:∀ (u v:BitVec k.bits),(u &&& v).toNat+(u &&& ~~~v).toNat=u.toNat:=by
  intro u v
  have h0:(u &&& v) &&& (u &&& ~~~v)=0#k.bits:=by
   ext i hi
   simp only[BitVec.getElem_and,BitVec.getElem_not,BitVec.getElem_zero]
   cases u[i] <;> cases v[i] <;> rfl
  have h3:=BitVec.add_eq_or_of_and_eq_zero _ _ h0
  have h4:(u &&& v) ||| (u &&& ~~~v)=u:=by
   ext i hi
   simp only[BitVec.getElem_or,BitVec.getElem_and,BitVec.getElem_not]
   cases u[i] <;> cases v[i] <;> rfl
  rw[h4] at h3
  have h5:=congrArg BitVec.toNat h3
  rw[BitVec.toNat_add] at h5
  have a1:(u &&& v).toNat≤u.toNat:=by rw[BitVec.toNat_and]; exact Nat.and_le_left
  have a2:(u &&& ~~~v).toNat≤u.toNat:=by rw[BitVec.toNat_and]; exact Nat.and_le_left
  have a3:=u.isLt
  by_cases hlt:(u &&& v).toNat+(u &&& ~~~v).toNat<2 ^ k.bits
  ·rw[Nat.mod_eq_of_lt hlt] at h5; exact h5
  ·exfalso
   rw[Nat.mod_eq_sub_mod (by omega),Nat.mod_eq_of_lt (by omega)] at h5
   omega
 have e:=key (BitVec.ofInt k.bits x) (BitVec.ofInt k.bits y)
 rw[BitVec.toNat_and,ofInt_toNat hx hx',ofInt_toNat hy hy'] at e
 have e':bitsDen .andNot k x y=k.wrap ((BitVec.ofInt k.bits x &&& ~~~BitVec.ofInt k.bits y).toNat:Int):=rfl
 have a3:(BitVec.ofInt k.bits x &&& ~~~BitVec.ofInt k.bits y).toNat<2 ^ k.bits:=BitVec.isLt _
 have a4:(((BitVec.ofInt k.bits x &&& ~~~BitVec.ofInt k.bits y).toNat:Nat):Int)<2 ^ k.bits:=by exact_mod_cast a3
 rw[e',wrap_self k _ (by rw[h1]; exact Int.natCast_nonneg _) (by rw[h2]; omega)]
 have:x=(x.toNat:Int):=by omega
 omega
theorem and_mask {n lo hi:Nat}(h:lo≤hi):n &&& (2 ^ hi-2 ^ lo)=n % 2 ^ hi-n % 2 ^ lo:=by
 have e1:2 ^ hi-2 ^ lo=(2 ^ (hi-lo)-1) <<< lo:=by
  rw[Nat.shiftLeft_eq,Nat.sub_mul,← Nat.pow_add,Nat.one_mul,Nat.sub_add_cancel h]
 have e2:n &&& (2 ^ hi-2 ^ lo)=(n >>> lo % 2 ^ (hi-lo)) <<< lo:=by
  rw[e1]
  apply Nat.eq_of_testBit_eq
  intro i
  rw[Nat.testBit_and,Nat.testBit_shiftLeft,Nat.testBit_two_pow_sub_one,Nat.testBit_shiftLeft,Nat.testBit_mod_two_pow,Nat.testBit_shiftRight]
  by_cases hi':i ≥ lo
  ·simp only[hi',decide_true,Bool.true_and]
   rw[show lo+(i-lo)=i by omega]
   exact Bool.and_comm _ _
  ·simp [hi']
 rw[e2,Nat.shiftLeft_eq,Nat.shiftRight_eq_div_pow]
 have e3:n % 2 ^ hi=n % 2 ^ lo+2 ^ lo*(n / 2 ^ lo % 2 ^ (hi-lo)):=by
  rw[← Nat.mod_mul,← Nat.pow_add,Nat.add_sub_cancel' h]
 rw[e3,Nat.mul_comm]
 omega
theorem or_apart {a b lo hi:Nat}(hb:b<2 ^ hi) (hbl:b % 2 ^ lo=0) (ha:a % 2 ^ hi<2 ^ lo):a ||| b=a+b:=by
 have e1:a=2 ^ hi*(a / 2 ^ hi)+a % 2 ^ hi:=(Nat.div_add_mod _ _).symm
 have e2:b=2 ^ lo*(b / 2 ^ lo):=by have:=Nat.div_add_mod b (2 ^ lo); omega
 have hle:lo≤hi∨hi<lo:=by omega
 have l1:a % 2 ^ hi ||| b=a % 2 ^ hi+b:=by
  rw[Nat.or_comm,Nat.add_comm,e2]
  exact(Nat.two_pow_add_eq_or_of_lt ha _).symm
 by_cases hlt:a % 2 ^ hi+b<2 ^ hi
 ·calc a ||| b=(2 ^ hi*(a / 2 ^ hi)+a % 2 ^ hi) ||| b:=by rw[← e1]
   _=(2 ^ hi*(a / 2 ^ hi) ||| a % 2 ^ hi) ||| b:=by rw[Nat.two_pow_add_eq_or_of_lt (Nat.mod_lt _ (Nat.two_pow_pos _))]
   _=2 ^ hi*(a / 2 ^ hi) ||| (a % 2 ^ hi+b):=by rw[Nat.or_assoc,l1]
   _=2 ^ hi*(a / 2 ^ hi)+(a % 2 ^ hi+b):=(Nat.two_pow_add_eq_or_of_lt hlt _).symm
   _=a+b:=by omega
 ·exfalso
  rcases hle with hle | hle
  ·-- b is a multiple of 2^lo below 2^hi
   have e3:2 ^ hi=2 ^ lo*2 ^ (hi-lo):=by rw[← Nat.pow_add,Nat.add_sub_cancel' hle]
   have:b / 2 ^ lo<2 ^ (hi-lo):=by
    rw[e2,e3] at hb
    exact Nat.lt_of_mul_lt_mul_left hb
   have h2:2 ^ lo*(b / 2 ^ lo+1)≤2 ^ lo*2 ^ (hi-lo):=Nat.mul_le_mul_left _ this
   rw[Nat.mul_add,← e2,← e3] at h2
   omega
  ·have h3:2 ^ hi≤2 ^ lo:=Nat.pow_le_pow_right (by omega) (by omega)
   have:b=0:=by
    by_cases hz:b / 2 ^ lo=0
    ·rw[e2,hz,Nat.mul_zero]
    ·have:2 ^ lo*1≤2 ^ lo*(b / 2 ^ lo):=Nat.mul_le_mul_left _ (Nat.pos_of_ne_zero hz)
     omega
   have:=Nat.mod_lt a (Nat.two_pow_pos hi)
   omega
theorem maskAt_ok {m:Int}{lo hi:Nat}(h:maskAt m=some (lo,hi)):∃ n:Nat,m=n∧(m=2 ^ hi-2 ^ lo):=by
 unfold maskAt at h
 split at h
 ·rename_i n
  split at h
  ·rename_i hc
   simp at h
   obtain⟨rfl,rfl⟩:=h
   exact⟨n,rfl,hc.2⟩
  ·simp at h
 ·simp at h
theorem pow_cast (n:Nat):((2 ^ n:Nat):Int)=(2:Int) ^ n:=by push_cast; rfl
theorem pow_pos' (n:Nat):(0:Int)<2 ^ n:=by rw[← pow_cast]; exact_mod_cast Nat.two_pow_pos n
theorem andF_ok (hG:G.Ok E) {k:IntKind}{a x:SI}{m:Int}{neg:Bool}(h:andF G k a m neg=some x):x.den E=bitsDen (if neg then .andNot else .and) k (a.den E) m:=by
 unfold andF at h
 split at h
 ·simp at h
 rename_i hk
 have hk:k.signed=false:=by simpa using hk
 split at h
 case h_2=>simp at h
 rename_i lo hi hm
 split at h
 case isFalse=>simp at h
 rename_i hh
 split at h
 case h_2=>simp at h
 rename_i H hH
 split at h
 case isFalse=>simp at h
 rename_i hHb
 split at h
 case h_2=>simp at h
 rename_i L Hi hs1
 split at h
 case h_2=>simp at h
 rename_i l mid hs2
 obtain⟨n,hn,hm2⟩:=maskAt_ok hm
 have hp:=sumParts_ok (E:=E) a
 have hb:=hiP_ok hG hH
 rw[hp] at hb
 obtain⟨a1,a2,a3,a4,_⟩:=splitP_ok hG (pow_pos' hi) hs1
 obtain⟨b1,b2,b3,b4,_⟩:=splitP_ok hG (pow_pos' lo) hs2
 rw[hp] at a1
 -- as natural numbers
 have hx0:0≤a.den E:=hb.1
 have hx1:a.den E<2 ^ k.bits:=by omega
 have hpl:(2:Int) ^ lo≤2 ^ hi:=by rw[← pow_cast,← pow_cast]; exact_mod_cast Nat.pow_le_pow_right (by omega) hh.2
 have hpk:(2:Int) ^ hi≤2 ^ k.bits:=by rw[← pow_cast,← pow_cast]; exact_mod_cast Nat.pow_le_pow_right (by omega) hh.1
 have hm0:0≤m:=by omega
 have hm1:m<2 ^ k.bits:=by have:=pow_pos' lo; omega
 have eL:a.den E % 2 ^ hi=denP E L.1+L.2:=by
  rw[a1,Int.add_emod,a4,Int.add_zero,Int.emod_emod,Int.emod_eq_of_lt a2 a3]
 have el:a.den E % 2 ^ lo=denP E l.1+l.2:=by
  have hd:(2:Int) ^ hi=2 ^ lo*2 ^ (hi-lo):=by rw[← pow_cast,← pow_cast,← pow_cast]; exact_mod_cast (by rw[← Nat.pow_add,Nat.add_sub_cancel' hh.2])
  have hz:(denP E Hi.1+Hi.2) % 2 ^ lo=0:=by
   have:=Int.mul_ediv_add_emod (denP E Hi.1+Hi.2) (2 ^ hi)
   rw[a4,Int.add_zero] at this
   rw[← this,hd,Int.mul_assoc]
   exact Int.mul_emod_right _ _
  rw[a1,Int.add_emod,hz,Int.add_zero,Int.emod_emod,b1,Int.add_emod,b4,Int.add_zero,Int.emod_emod,Int.emod_eq_of_lt b2 b3]
 have key:(((a.den E).toNat &&& m.toNat:Nat):Int)=denP E mid.1+mid.2:=by
  have e1:m.toNat=2 ^ hi-2 ^ lo:=by
   have h1:((m.toNat:Nat):Int)=m:=Int.toNat_of_nonneg hm0
   have h2:((2 ^ hi-2 ^ lo:Nat):Int)=2 ^ hi-2 ^ lo:=by rw[Int.ofNat_sub (Nat.pow_le_pow_right (by omega) hh.2),pow_cast,pow_cast]
   omega
  rw[e1,and_mask hh.2]
  have c1:(((a.den E).toNat % 2 ^ hi:Nat):Int)=denP E L.1+L.2:=by rw[Int.natCast_emod,pow_cast,Int.toNat_of_nonneg hx0,eL]
  have c2:(((a.den E).toNat % 2 ^ lo:Nat):Int)=denP E l.1+l.2:=by rw[Int.natCast_emod,pow_cast,Int.toNat_of_nonneg hx0,el]
  have hnn:0≤denP E mid.1+mid.2:=by
   -- a multiple of 2^lo that is more than -2^lo
   have:=Int.mul_ediv_add_emod (denP E mid.1+mid.2) (2 ^ lo)
   rw[b4,Int.add_zero] at this
   have hgt : -(2 ^ lo)<denP E mid.1+mid.2:=by omega
   have hq : -1<(denP E mid.1+mid.2) / 2 ^ lo:=by
    rw[← this] at hgt
    rw[show -((2:Int) ^ lo)=2 ^ lo*(-1) by rw[Int.mul_neg_one]] at hgt
    exact Int.lt_of_mul_lt_mul_left hgt (Int.le_of_lt (pow_pos' lo))
   rw[← this]
   exact Int.mul_nonneg (Int.le_of_lt (pow_pos' lo)) (by omega)
  omega
 cases neg with
 | false =>
  simp at h; subst h
  rw[sumP_den,if_neg (by simp),bits_and hk hx0 hx1 hm0 hm1,key]
 | true =>
  simp at h; subst h
  rw[sumP_den,if_pos rfl,bits_andNot hk hx0 hx1 hm0 hm1,key,denP_append]
  omega
theorem gcdP_ok (c:Int):∀ (l:List (SI × Int)),((gcdP c l:Nat):Int) ∣ denP E l+c
 | []=>by simp only[gcdP,denP]; rw[Int.zero_add]; exact Int.natAbs_dvd.2 (Int.dvd_refl _)
 | p::r=>by
  have h1:=gcdP_ok c r
  simp only[gcdP,denP]
  have h2:((Nat.gcd p.2.natAbs (gcdP c r):Nat):Int) ∣ p.2:=Int.ofNat_dvd_left.2 (Nat.gcd_dvd_left _ _)
  have h3:((Nat.gcd p.2.natAbs (gcdP c r):Nat):Int) ∣ denP E r+c:=Int.dvd_trans (Int.natCast_dvd_natCast.2 (Nat.gcd_dvd_right _ _)) h1
  rw[Int.add_assoc]
  exact Int.dvd_add (Int.dvd_mul_of_dvd_right h2) h3
theorem orF_ok (hG:G.Ok E) {k:IntKind}{a b x:SI}(h:orF G k a b=some x):x.den E=bitsDen .or k (a.den E) (b.den E):=by
 unfold orF at h
 split at h
 ·simp at h
 rename_i hk
 have hk:k.signed=false:=by simpa using hk
 split at h
 case h_2=>simp at h
 rename_i hA hB ha hb
 simp only at h
 generalize hlo:tzF 64 (gcdP b.parts.2 b.parts.1)=lo at h
 generalize hhi:Nat.log2 hB.toNat+1=hi at h
 split at h
 case isFalse=>simp at h
 rename_i hc
 obtain⟨c1,c2,c3,c4,c5⟩:=hc
 split at h
 case h_2=>simp at h
 rename_i L Hi hs1
 split at h
 case h_2=>simp at h
 rename_i l hs2
 simp at h; subst h
 have pa:=sumParts_ok (E:=E) a
 have pb:=sumParts_ok (E:=E) b
 have ba:=hiP_ok hG ha
 have bb:=hiP_ok hG hb
 rw[pa] at ba; rw[pb] at bb
 obtain⟨a1,a2,a3,a4,_⟩:=splitP_ok hG (pow_pos' hi) hs1
 obtain⟨b1,b2,b3,b4,_⟩:=splitP_ok hG (pow_pos' lo) hs2
 rw[pa] at a1
 simp only[denP,Int.add_zero] at b1
 have hpk:(2:Int) ^ hi≤2 ^ k.bits:=by rw[← pow_cast,← pow_cast]; exact_mod_cast Nat.pow_le_pow_right (by omega) c3
 rw[bits_or hk ba.1 (by omega) bb.1 (by omega)]
 have eL:a.den E % 2 ^ hi=denP E L.1+L.2:=by
  rw[a1,Int.add_emod,a4,Int.add_zero,Int.emod_emod,Int.emod_eq_of_lt a2 a3]
 have hd:b.den E % 2 ^ lo=0:=by
  have h1:=gcdP_ok (E:=E) b.parts.2 b.parts.1
  rw[pb] at h1
  have h2:(2:Int) ^ lo ∣ ((gcdP b.parts.2 b.parts.1:Nat):Int):=Int.dvd_of_emod_eq_zero c5
  exact Int.emod_eq_zero_of_dvd (Int.dvd_trans h2 h1)
 have:=or_apart (a:=(a.den E).toNat) (b:=(b.den E).toNat) (lo:=lo) (hi:=hi)
  (by
    have:((b.den E).toNat:Int)<((2 ^ hi:Nat):Int):=by rw[pow_cast,Int.toNat_of_nonneg bb.1]; omega
    exact_mod_cast this)
  (by
    have:(((b.den E).toNat % 2 ^ lo:Nat):Int)=0:=by rw[Int.natCast_emod,pow_cast,Int.toNat_of_nonneg bb.1,hd]
    exact_mod_cast this)
  (by
    have:(((a.den E).toNat % 2 ^ hi:Nat):Int)<((2 ^ lo:Nat):Int):=by rw[Int.natCast_emod,pow_cast,pow_cast,Int.toNat_of_nonneg ba.1,eL]; omega
    exact_mod_cast this)
 rw[this,sumP_den,denP_append,Int.natCast_add,Int.toNat_of_nonneg ba.1,Int.toNat_of_nonneg bb.1]
 omega
theorem bits_comm (k:IntKind) (x y:Int):bitsDen .or k x y=bitsDen .or k y x:=by
 unfold bitsDen; simp only; rw[BitVec.or_comm]
theorem bitsG_den (hG:G.Ok E) (o:BinOp) (k:IntKind) (a b:SI):(bitsG G o k a b).den E=bitsDen o k (a.den E) (b.den E):=by
 unfold bitsG
 split
 ·split
  ·exact mkBits_den _ _ _ _
  ·split
   ·rename_i h; exact andF_ok hG h
   ·exact mkBits_den _ _ _ _
 ·split
  ·exact mkBits_den _ _ _ _
  ·split
   ·rename_i h; exact andF_ok hG h
   ·exact mkBits_den _ _ _ _
 ·split
  ·exact mkBits_den _ _ _ _
  ·split
   ·rename_i h; exact orF_ok hG h
   ·split
    ·rename_i h; rw[bits_comm]; exact orF_ok hG h
    ·exact mkBits_den _ _ _ _
 ·exact mkBits_den _ _ _ _
theorem shlG_den (hG:G.Ok E) (k:IntKind) (a:SI) (n:Nat):(shlG G k a n).den E=k.wrap (a.den E*2 ^ n):=by
 unfold shlG
 split
 ·rename_i h hh
  split
  ·rename_i hc
   have hb:=hiP_ok hG hh
   have pa:=sumParts_ok (E:=E) a
   rw[pa] at hb
   rw[sumP_den,scaleP_ok,← Int.add_mul,pa]
   have h1:0≤a.den E*2 ^ n:=Int.mul_nonneg hb.1 (Int.le_of_lt (pow_pos' n))
   have h2:a.den E*2 ^ n≤h*2 ^ n:=Int.mul_le_mul_of_nonneg_right hb.2 (Int.le_of_lt (pow_pos' n))
   rw[wrap_self]
   ·cases k <;> simp [IntKind.min,IntKind.signed,IntKind.bits] <;> omega
   ·omega
  ·simp [SI.den]
 ·simp [SI.den]
theorem shrG_den (hG:G.Ok E) (a:SI) (n:Nat):(shrG G a n).den E=(a.den E).fdiv (2 ^ n):=by
 unfold shrG
 split
 ·rename_i L H hs
  obtain⟨a1,a2,a3,a4,a5⟩:=splitP_ok hG (pow_pos' n) hs
  rw[sumParts_ok] at a1
  rw[sumP_den,a5,Int.fdiv_eq_ediv_of_nonneg _ (Int.le_of_lt (pow_pos' n)),a1]
  have e:=Int.mul_ediv_add_emod (denP E H.1+H.2) (2 ^ n)
  rw[a4,Int.add_zero] at e
  conv=>rhs; lhs; rhs; rw[← e]
  rw[Int.add_mul_ediv_left _ _ (by have:=pow_pos' n; omega),Int.ediv_eq_zero_of_lt a2 a3,Int.zero_add]
 ·simp [SI.den]
end Go.Ev
