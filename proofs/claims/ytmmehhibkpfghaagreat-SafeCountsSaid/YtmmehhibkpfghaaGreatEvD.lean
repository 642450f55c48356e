/- Ev, part D: laws of maps, open numbers, truths and values. -/
import Derived.Test.YtmmehhibkpfghaaGreatEvC
set_option linter.unusedVariables false
namespace Go.Ev
namespace Tr
variable {α:Type}
theorem rec_cond {β:Type}(a:Bool) (x y:β):@Bool.rec (fun _=>β) y x a=bif a then x else y:=by cases a <;> rfl
theorem get_node (l:Tr α) (v:Option α) (r:Tr α) (n:Nat):(Tr.node l v r).get n=bif Nat.beq n 0 then v else bif Nat.beq (n % 2) 1 then l.get (n / 2) else r.get (n / 2-1):=by
 rw[← rec_cond,← rec_cond]; rfl
theorem putF_nil (x:Option α) (f n:Nat):putF x (f+1) .nil n=bif Nat.beq n 0 then .node .nil x .nil else bif Nat.beq (n % 2) 1 then .node (putF x f .nil (n / 2)) none .nil else .node .nil none (putF x f .nil (n / 2-1)):=by
 rw[← rec_cond,← rec_cond]; rfl
theorem putF_node (x:Option α) (f n:Nat) (l:Tr α) (v:Option α) (r:Tr α):putF x (f+1) (.node l v r) n=bif Nat.beq n 0 then .node l x r else bif Nat.beq (n % 2) 1 then .node (putF x f l (n / 2)) v r else .node l v (putF x f r (n / 2-1)):=by
 rw[← rec_cond,← rec_cond]; rfl
theorem get_nil (m:Nat):(Tr.nil:Tr α).get m=none:=rfl
theorem get_putF (x:Option α):∀ (f:Nat) (t:Tr α) (n m:Nat),n<f→(putF x f t n).get m=if m=n then x else t.get m:=by
 intro f
 induction f with
 | zero=>intro t n m h; omega
 | succ f ih =>
  intro t n m h
  have beq0:∀ k:Nat,Nat.beq k 0=decide (k=0):=fun k=>by cases k <;> simp [Nat.beq]
  have beq1:∀ k:Nat,Nat.beq (k % 2) 1=decide (k % 2=1):=fun k=>by
   rcases Nat.mod_two_eq_zero_or_one k with e | e <;> simp [e,Nat.beq]
  cases t with
  | nil =>
   simp only[putF_nil]
   by_cases h0:n=0
   ·subst h0
    simp only[beq0,decide_true,cond_true,get_node,get_nil]
    by_cases hm:m=0
    ·simp [hm]
    ·simp [hm,beq1]
   ·simp only[beq0,h0,decide_false,cond_false,beq1]
    by_cases h1:n % 2=1
    ·simp only[h1,decide_true,cond_true,get_node,get_nil,beq0,beq1]
     by_cases hm:m=0
     ·simp [hm]; omega
     ·by_cases hm1:m % 2=1
      ·simp only[hm,hm1,decide_true,decide_false,cond_true,cond_false]
       rw[ih _ _ _ (by omega)]
       simp only[get_nil]
       by_cases e:m=n
       ·simp [e]
       ·rw[if_neg (by omega),if_neg e]
      ·simp only[hm,hm1,decide_false,cond_false]
       rw[if_neg (by omega)]
    ·simp only[h1,decide_false,cond_false,get_node,get_nil,beq0,beq1]
     by_cases hm:m=0
     ·simp [hm]; omega
     ·by_cases hm1:m % 2=1
      ·simp only[hm,hm1,decide_true,decide_false,cond_true,cond_false]
       rw[if_neg (by omega)]
      ·simp only[hm,hm1,decide_false,cond_false]
       rw[ih _ _ _ (by omega)]
       simp only[get_nil]
       by_cases e:m=n
       ·simp [e]
       ·rw[if_neg (by omega),if_neg e]
  | node l v r =>
   simp only[putF_node]
   by_cases h0:n=0
   ·subst h0
    simp only[beq0,decide_true,cond_true,get_node,beq1]
    by_cases hm:m=0
    ·simp [hm]
    ·simp [hm]
   ·simp only[beq0,h0,decide_false,cond_false,beq1]
    by_cases h1:n % 2=1
    ·simp only[h1,decide_true,cond_true,get_node,beq0,beq1]
     by_cases hm:m=0
     ·simp [hm]; omega
     ·by_cases hm1:m % 2=1
      ·simp only[hm,hm1,decide_true,decide_false,cond_true,cond_false]
       rw[ih _ _ _ (by omega)]
       by_cases e:m=n
       ·simp [e]
       ·rw[if_neg (by omega),if_neg e]
      ·simp only[hm,hm1,decide_false,cond_false]
       rw[if_neg (by omega)]
    ·simp only[h1,decide_false,cond_false,get_node,beq0,beq1]
     by_cases hm:m=0
     ·simp [hm]; omega
     ·by_cases hm1:m % 2=1
      ·simp only[hm,hm1,decide_true,decide_false,cond_true,cond_false]
       rw[if_neg (by omega)]
      ·simp only[hm,hm1,decide_false,cond_false]
       rw[ih _ _ _ (by omega)]
       by_cases e:m=n
       ·simp [e]
       ·rw[if_neg (by omega),if_neg e]
theorem get_put (t:Tr α) (n:Nat) (x:Option α) (m:Nat):(t.put n x).get m=if m=n then x else t.get m :=
 get_putF x (n+1) t n m (Nat.lt_succ_self n)
theorem get_set (t:Tr α) (n:Nat) (x:α) (m:Nat):(t.set n x).get m=if m=n then some x else t.get m:=get_put t n _ m
end Tr
def Ctx.Ok (G:Ctx) (E:Env):Prop :=
 (∀ i r,G.rng[i]?=some (some r)→r.1≤E.int i∧E.int i≤r.2)∧∀ p ∈ G.asm,SB.den E p.1=p.2
theorem wrap_bounds (k:IntKind) (n:Int):k.min≤k.wrap n∧k.wrap n≤k.max:=by
 cases k <;> simp [IntKind.min,IntKind.max,IntKind.wrap,IntKind.signed,IntKind.bits] <;> (try split) <;> omega
theorem wrap_self (k:IntKind) (n:Int) (h1:k.min≤n) (h2:n≤k.max):k.wrap n=n:=by
 cases k <;> simp [IntKind.min,IntKind.max,IntKind.wrap,IntKind.signed,IntKind.bits] at*<;> (try split) <;> omega
theorem bitsDen_bounds (o:BinOp) (k:IntKind) (x y:Int):k.min≤bitsDen o k x y∧bitsDen o k x y≤k.max:=by
 unfold bitsDen; cases o <;> exact wrap_bounds _ _
variable {G:Ctx} {E:Env}
theorem SI.range_ok (hG:G.Ok E):∀ {a:SI}{r:Int × Int},a.range G=some r→r.1≤a.den E∧a.den E≤r.2:=by
 intro a
 induction a with
 | lit n=>intro r h; simp [SI.range] at h; subst h; simp [SI.den]
 | var i =>
  intro r h
  simp only[SI.range] at h
  split at h
  ·rename_i q hq; subst h; exact hG.1 i r hq
  ·simp at h
 | add a b iha ihb =>
  intro r h
  simp only[SI.range] at h
  split at h
  ·rename_i x y hx hy
   have:=iha hx; have:=ihb hy
   simp at h; subst h; simp only[SI.den]; omega
  ·simp at h
 | sub a b iha ihb =>
  intro r h
  simp only[SI.range] at h
  split at h
  ·rename_i x y hx hy
   have:=iha hx; have:=ihb hy
   simp at h; subst h; simp only[SI.den]; omega
  ·simp at h
 | mul a b iha ihb =>
  intro r h
  cases b <;> try (simp [SI.range] at h; done)
  rename_i c
  simp only[SI.range] at h
  split at h
  ·rename_i x hx
   have:=iha hx
   split at h
   ·rename_i hc
    simp at h; subst h
    simp only[SI.den]
    exact⟨Int.mul_le_mul_of_nonneg_right this.1 hc,Int.mul_le_mul_of_nonneg_right this.2 hc⟩
   ·rename_i hc
    simp at h; subst h
    simp only[SI.den]
    exact⟨Int.mul_le_mul_of_nonpos_right this.2 (by omega),Int.mul_le_mul_of_nonpos_right this.1 (by omega)⟩
  ·simp at h
 | rem a b iha ihb =>
  intro r h
  simp only[SI.range] at h
  split at h
  case h_2=>simp at h
  rename_i x hx
  have hxa:=iha hx
  split at h
  case isFalse=>simp at h
  rename_i hc
  have h0:0≤a.den E:=by omega
  have g1:0≤a.den E % b.den E:=by
   by_cases hb:b.den E=0
   ·rw[hb,Int.emod_zero]; exact h0
   ·exact Int.emod_nonneg _ hb
  have g2:a.den E % b.den E≤a.den E:=by
   by_cases hb:b.den E=0
   ·rw[hb,Int.emod_zero]; omega
   ·by_cases hp:0<b.den E
    ·have h1:=Int.mul_ediv_add_emod (a.den E) (b.den E)
     have h2:=Int.ediv_nonneg h0 (Int.le_of_lt hp)
     have h3:=Int.mul_nonneg (Int.le_of_lt hp) h2
     omega
    ·have e:a.den E % b.den E=a.den E % (-(b.den E)):=by rw[Int.emod_neg]
     rw[e]
     have hp':0 < -(b.den E):=by omega
     have h1:=Int.mul_ediv_add_emod (a.den E) (-(b.den E))
     have h2:=Int.ediv_nonneg h0 (Int.le_of_lt hp')
     have h3:=Int.mul_nonneg (Int.le_of_lt hp') h2
     omega
  have key:r=(0,x.2)→r.1≤(SI.rem a b).den E∧(SI.rem a b).den E≤r.2:=by
   intro e; subst e
   simp only[SI.den]
   rw[Int.tmod_eq_emod_of_nonneg h0]
   exact⟨g1,by show _≤x.2; omega⟩
  split at h
  ·rename_i y hy
   have hyb:=ihb hy
   split at h
   ·rename_i hp
    simp at h; subst h
    simp only[SI.den]
    rw[Int.tmod_eq_emod_of_nonneg h0]
    have h2:=Int.emod_lt_of_pos (a.den E) (show 0<b.den E by omega)
    exact⟨g1,by show _≤min x.2 (y.2-1); omega⟩
   ·simp at h; exact key h.symm
  ·simp at h; exact key h.symm
 | quo a b iha ihb =>
  intro r h
  cases b <;> try (simp [SI.range] at h; done)
  rename_i c
  simp only[SI.range] at h
  split at h
  ·rename_i x hx
   have:=iha hx
   split at h
   ·rename_i hc
    simp at h; subst h
    simp only[SI.den]
    have h0:0≤a.den E:=by omega
    rw[Int.tdiv_eq_ediv_of_nonneg h0]
    have h1:=Int.ediv_nonneg h0 (by omega:0≤c)
    have h3:a.den E / c≤a.den E:=Int.ediv_le_self _ h0
    exact⟨h1,by show _≤x.2; omega⟩
   ·simp at h
  ·simp at h
 | shr a n iha =>
  intro r h
  simp only[SI.range] at h
  split at h
  ·rename_i x hx
   have hx:=iha hx
   simp at h; subst h
   simp only[SI.den]
   have hp:(0:Int)<2 ^ n:=Int.pow_pos (by omega)
   rw[Int.fdiv_eq_ediv_of_nonneg _ (Int.le_of_lt hp),Int.fdiv_eq_ediv_of_nonneg _ (Int.le_of_lt hp),Int.fdiv_eq_ediv_of_nonneg _ (Int.le_of_lt hp)]
   exact⟨Int.ediv_le_ediv hp hx.1,Int.ediv_le_ediv hp hx.2⟩
  ·simp at h
 | sel k a i _ _=>intro r h; simp [SI.range] at h; subst h; exact wrap_bounds _ _
 | wrap k a iha =>
  intro r h
  simp only[SI.range] at h
  split at h
  ·rename_i x hx
   have hx':=iha hx
   split at h
   ·rename_i hr
    simp at h; subst h
    simp [inRange] at hr
    simp only[SI.den]
    rw[wrap_self k _ (by omega) (by omega)]
    exact hx'
   ·simp at h; subst h; exact wrap_bounds _ _
  ·simp at h; subst h; exact wrap_bounds _ _
 | bits o k a b _ _=>intro r h; simp [SI.range] at h; subst h; exact bitsDen_bounds _ _ _ _
 | shl k a n _=>intro r h; simp [SI.range] at h; subst h; exact wrap_bounds _ _
 | _=>intro r h; simp [SI.range] at h
theorem mkAdd_den (a b:SI):(mkAdd a b).den E=a.den E+b.den E:=by
 unfold mkAdd
 split <;> (try split) <;> simp only[SI.den] <;> omega
theorem mkSub_den (a b:SI):(mkSub a b).den E=a.den E-b.den E:=by
 unfold mkSub
 split
 ·simp [SI.den]
 ·rw[mkAdd_den]; simp only[SI.den]; omega
 ·split
  ·rename_i h; subst h; simp only[SI.den]; omega
  ·simp only[SI.den]
theorem mkMul_den (a b:SI):(mkMul a b).den E=a.den E*b.den E:=by
 unfold mkMul
 split
 ·simp [SI.den]
 ·split
  ·rename_i h; subst h; simp [SI.den]
  ·simp only[SI.den]; rw[Int.add_mul,Int.mul_assoc]
 ·split
  ·rename_i h; subst h; simp [SI.den]
  ·simp only[SI.den]; rw[Int.add_mul]
 ·simp only[SI.den]; rw[Int.mul_assoc]
 ·split
  ·rename_i h; subst h; simp [SI.den]
  ·simp [SI.den]
 ·split
  ·rename_i h; subst h; simp [SI.den]
  ·simp [SI.den,Int.mul_comm]
 ·simp [SI.den]
theorem wrapR_den (hG:G.Ok E) (k:IntKind) (a:SI):(wrapR G k a).den E=k.wrap (a.den E):=by
 unfold wrapR
 split
 ·rename_i r hr
  split
  ·rename_i hk
   simp [inRange] at hk
   have:=SI.range_ok hG hr
   rw[wrap_self k _ (by omega) (by omega)]
  ·simp [SI.den]
 ·simp [SI.den]
theorem wrap_back (k:IntKind) (x y:Int):k.wrap (k.wrap (x+y)-x)=k.wrap y:=by
 cases k <;> simp [IntKind.wrap,IntKind.signed,IntKind.bits] <;> (repeat' split) <;> omega
theorem wrap_wrap {k l:IntKind}(h:k.bits≤l.bits) (y:Int):k.wrap (l.wrap y)=k.wrap y:=by
 cases k <;> cases l <;> simp [IntKind.bits] at h <;> simp [IntKind.wrap,IntKind.signed,IntKind.bits] <;> (repeat' split) <;> omega
theorem mkWrap_den (hG:G.Ok E) (k:IntKind) (a:SI):(mkWrap G k a).den E=k.wrap (a.den E):=by
 unfold mkWrap
 split
 ·rename_i n
  by_cases h:0≤n∧n<128
  ·have:(decide (0≤n)&&decide (n<128))=true:=by simp [h]
   rw[this]
   simp only[cond_true,SI.den]
   rw[wrap_self] <;> cases k <;> simp [IntKind.min,IntKind.max,IntKind.signed,IntKind.bits] <;> omega
  ·have:(decide (0≤n)&&decide (n<128))=false:=by simp; omega
   rw[this]
   simp [SI.den]
 ·rename_i l y
  split
  ·rename_i h
   rw[wrapR_den hG]
   simp only[SI.den]
   exact(wrap_wrap h _).symm
  ·exact wrapR_den hG _ _
 ·rename_i l a i
  split
  ·rename_i h
   simp only[SI.den]
   exact(wrap_wrap (by rcases h with h | h <;> omega) _).symm
  ·exact wrapR_den hG _ _
 ·rename_i l x y z
  split
  ·rename_i h
   obtain⟨rfl,rfl⟩:=h
   rw[wrapR_den hG]
   simp only[SI.den]
   exact(wrap_back _ _ _).symm
  ·split
   ·rename_i h
    obtain⟨rfl,rfl⟩:=h
    rw[wrapR_den hG]
    simp only[SI.den]
    rw[Int.add_comm]
    exact(wrap_back _ _ _).symm
   ·exact wrapR_den hG _ _
 ·exact wrapR_den hG _ _
theorem mkBits_den (o:BinOp) (k:IntKind) (a b:SI):(mkBits o k a b).den E=bitsDen o k (a.den E) (b.den E):=by
 unfold mkBits; split <;> simp [SI.den]
theorem mkNot_den (a:SB):(mkNot a).den E=!(a.den E):=by
 unfold mkNot; split <;> simp [SB.den]
theorem mkLss_den (hG:G.Ok E) (a b:SI):(mkLss G a b).den E=decide (a.den E<b.den E):=by
 unfold mkLss
 split
 ·rename_i x y hx hy
  have:=SI.range_ok hG hx; have:=SI.range_ok hG hy
  split
  ·simp only[SB.den]; symm; rw[decide_eq_true_iff]; omega
  ·split
   ·simp only[SB.den]; symm; rw[decide_eq_false_iff_not]; omega
   ·simp [SB.den]
 ·simp [SB.den]
theorem wrap_mod (k:IntKind) (n:Int):k.wrap n % (2 ^ k.bits:Int)=n % (2 ^ k.bits:Int):=by
 unfold IntKind.wrap
 simp only
 split
 ·rw[Int.sub_emod_right,Int.emod_emod]
 ·rw[Int.emod_emod]
theorem offWrap_ok {E:Env}{a b:SI}(h:offWrap a b=true):a.den E≠b.den E:=by
 unfold offWrap at h
 split at h
 ·rename_i k x c
  split at h
  ·rename_i hc
   obtain⟨rfl,hc⟩:=hc
   intro e
   simp only[SI.den] at e
   have h1:=wrap_mod k (x.den E+c)
   rw[e] at h1
   apply hc
   have h2:(x.den E+c-x.den E) % (2 ^ k.bits:Int)=0:=Int.emod_eq_emod_iff_emod_sub_eq_zero.1 h1.symm
   have h3:x.den E+c-x.den E=c:=by omega
   rw[h3] at h2; exact h2
  ·simp at h
 ·simp at h
theorem mkEql_den (hG:G.Ok E) (a b:SI):(mkEql G a b).den E=(a.den E == b.den E):=by
 unfold mkEql
 split
 ·rename_i h; subst h; simp [SB.den]
 split
 ·rename_i h
  simp only[Bool.or_eq_true] at h
  simp only[SB.den]; symm; rw[beq_eq_false_iff_ne]
  rcases h with h | h
  ·exact offWrap_ok h
  ·exact fun e=>offWrap_ok h e.symm
 ·split
  ·rename_i x y hx hy
   have:=SI.range_ok hG hx; have:=SI.range_ok hG hy
   split
   ·simp only[SB.den]; symm; rw[beq_eq_false_iff_ne]; omega
   ·split
    ·simp only[SB.den]; symm; rw[beq_eq_false_iff_ne]; omega
    ·split
     ·simp only[SB.den]; symm; rw[beq_iff_eq]; omega
     ·simp [SB.den]
  ·simp [SB.den]
theorem mkIff_den (a b:SB):(mkIff a b).den E=(a.den E == b.den E):=by
 unfold mkIff
 split
 ·simp [SB.den]
 ·rw[mkNot_den]; simp [SB.den]
 ·simp [SB.den]
 ·rw[mkNot_den]; simp [SB.den]
 ·split
  ·rename_i h; subst h; simp [SB.den]
  ·simp [SB.den]
theorem findAsm_ok {b:SB}{t:Bool}:∀ {l:List (SB × Bool)},(∀ p ∈ l,SB.den E p.1=p.2)→findAsm b l=some t→b.den E=t:=by
 intro l
 induction l with
 | nil=>intro _ h; simp [findAsm] at h
 | cons p r ih =>
  intro hl h
  obtain⟨c,u⟩:=p
  simp only[findAsm] at h
  split at h
  ·rename_i e; subst e; simp at h; subst h; exact hl (b,u) (by simp)
  ·exact ih (fun p hp=>hl p (by simp [hp])) h
theorem SI.base_ok {E:Env}:∀ (a:SI),a.den E=a.base.2.1*a.base.1.den E+a.base.2.2∧0<a.base.2.1:=by
 intro a
 induction a with
 | add a b iha ihb =>
  cases b <;> try (simp [SI.base,SI.den]; done)
  rename_i k
  simp only[SI.base,SI.den]
  obtain⟨h1,h2⟩:=iha
  refine⟨by omega,h2⟩
 | mul a b iha ihb =>
  cases b <;> try (simp [SI.base,SI.den]; done)
  rename_i k
  simp only[SI.base]
  split
  ·rename_i hk
   obtain⟨h1,h2⟩:=iha
   simp only[SI.den]
   refine⟨by rw[h1,Int.add_mul,Int.mul_assoc,Int.mul_comm _ k,← Int.mul_assoc],Int.mul_pos h2 hk⟩
  ·simp [SI.den]
 | _=>simp [SI.base,SI.den]
theorem hiB_ok {E:Env}{x y:SI}{o:Option (Int × Int)}{d:Int}{r:Int × Int}(hr:r.1≤x.den E∧x.den E≤r.2) (h:∀ q,o=some q→y.den E≤q.2+d):(hiB x y o d r).1≤x.den E∧x.den E≤(hiB x y o d r).2:=by
 unfold hiB
 split
 ·rename_i hx
  split
  ·rename_i q
   have h:=h q rfl
   obtain⟨h1,h2⟩:=SI.base_ok (E:=E) y
   rw[hx] at h1
   refine⟨hr.1,?_⟩
   have:x.den E≤(q.2+d-y.base.2.2) / y.base.2.1:=by
    rw[Int.le_ediv_iff_mul_le h2,Int.mul_comm]
    omega
   dsimp only
   omega
  ·exact hr
 ·exact hr
theorem loB_ok {E:Env}{x y:SI}{o:Option (Int × Int)}{d:Int}{r:Int × Int}(hr:r.1≤x.den E∧x.den E≤r.2) (h:∀ q,o=some q→q.1+d≤y.den E):(loB x y o d r).1≤x.den E∧x.den E≤(loB x y o d r).2:=by
 unfold loB
 split
 ·rename_i hx
  split
  ·rename_i q
   have h:=h q rfl
   obtain⟨h1,h2⟩:=SI.base_ok (E:=E) y
   rw[hx] at h1
   refine⟨?_,hr.2⟩
   have : -x.den E≤(y.base.2.2-(q.1+d)) / y.base.2.1:=by
    rw[Int.le_ediv_iff_mul_le h2,Int.neg_mul,Int.mul_comm]
    omega
   dsimp only
   omega
  ·exact hr
 ·exact hr
theorem neB_ok {E:Env}{x y:SI}{n:Int}{r:Int × Int}(hr:r.1≤x.den E∧x.den E≤r.2) (h:y.den E≠n):(neB x y n r).1≤x.den E∧x.den E≤(neB x y n r).2:=by
 unfold neB
 split
 ·rename_i hx
  obtain⟨h1,h2⟩:=SI.base_ok (E:=E) y
  rw[hx] at h1
  split
  ·rename_i e
   have:x.den E≠r.1:=fun k=>h (by rw[h1,k,e])
   dsimp only; omega
  ·split
   ·rename_i e
    have:x.den E≠r.2:=fun k=>h (by rw[h1,k,e])
    dsimp only; omega
   ·exact hr
 ·exact hr
theorem tight1_ok {E:Env}{R:SI→Option (Int × Int)}(hR:∀ a q,R a=some q→q.1≤a.den E∧a.den E≤q.2) {x:SI}{r:Int × Int}(hr:r.1≤x.den E∧x.den E≤r.2) {p:SB × Bool}(hp:p.1.den E=p.2) :
  (tight1 R x r p).1≤x.den E∧x.den E≤(tight1 R x r p).2:=by
 unfold tight1
 split
 ·simp only[SB.den] at hp; have:=of_decide_eq_true hp
  exact loB_ok (hiB_ok hr fun q hq=>by have:=hR _ _ hq; omega) fun q hq=>by have:=hR _ _ hq; omega
 ·simp only[SB.den] at hp; have:=of_decide_eq_false hp
  exact hiB_ok (loB_ok hr fun q hq=>by have:=hR _ _ hq; omega) fun q hq=>by have:=hR _ _ hq; omega
 ·simp only[SB.den] at hp; have:=eq_of_beq hp
  exact loB_ok (hiB_ok (loB_ok (hiB_ok hr fun q hq=>by have:=hR _ _ hq; omega) fun q hq=>by have:=hR _ _ hq; omega) fun q hq=>by have:=hR _ _ hq; omega) fun q hq=>by have:=hR _ _ hq; omega
 ·simp only[SB.den,SI.den] at hp; exact neB_ok hr (by simpa using hp)
 ·simp only[SB.den,SI.den] at hp; exact neB_ok hr (fun e=>by simp [e] at hp)
 ·exact hr
theorem tight_ok {E:Env}{R:SI→Option (Int × Int)}(hR:∀ a q,R a=some q→q.1≤a.den E∧a.den E≤q.2) {x:SI}{r:Int × Int}(hr:r.1≤x.den E∧x.den E≤r.2):∀ {l:List (SB × Bool)},(∀ p ∈ l,SB.den E p.1=p.2) →
  (tight R x r l).1≤x.den E∧x.den E≤(tight R x r l).2
 | [],_=>hr
 | p::l,h=>tight1_ok hR (tight_ok hR hr (fun q hq=>h q (by simp [hq]))) (h p (by simp))
theorem base_bounds {E:Env}{a:SI}{q:Int × Int}(ht:q.1≤a.base.1.den E∧a.base.1.den E≤q.2):a.base.2.1*q.1+a.base.2.2≤a.den E∧a.den E≤a.base.2.1*q.2+a.base.2.2:=by
 have hb:=SI.base_ok (E:=E) a
 have h1:=Int.mul_le_mul_of_nonneg_left ht.1 (by omega:0≤a.base.2.1)
 have h2:=Int.mul_le_mul_of_nonneg_left ht.2 (by omega:0≤a.base.2.1)
 omega
theorem gap1_ok {E:Env}{x y p q:SI}{d:Int}{f:SB × Bool}(hf:f.1.den E=f.2) (hu:unit1 f=true) (h:gap1 x y f=some (p,q,d)):d≤q.den E-p.den E:=by
 unfold gap1 at h
 split at h
 ·rename_i a b
  simp only[unit1,Bool.and_eq_true,decide_eq_true_eq] at hu
  simp at h; obtain⟨rfl,rfl,rfl⟩:=h
  have ha:=(SI.base_ok (E:=E) a).1; have hb:=(SI.base_ok (E:=E) b).1
  rw[hu.1] at ha; rw[hu.2] at hb
  simp only[SB.den] at hf
  have:=of_decide_eq_true hf
  omega
 ·rename_i a b
  simp only[unit1,Bool.and_eq_true,decide_eq_true_eq] at hu
  simp at h; obtain⟨rfl,rfl,rfl⟩:=h
  have ha:=(SI.base_ok (E:=E) a).1; have hb:=(SI.base_ok (E:=E) b).1
  rw[hu.1] at ha; rw[hu.2] at hb
  simp only[SB.den] at hf
  have:=of_decide_eq_false hf
  omega
 ·rename_i a b
  simp only[unit1,Bool.and_eq_true,decide_eq_true_eq] at hu
  have ha:=(SI.base_ok (E:=E) a).1; have hb:=(SI.base_ok (E:=E) b).1
  rw[hu.1] at ha; rw[hu.2] at hb
  simp only[SB.den] at hf
  have:=eq_of_beq hf
  split at h
  ·simp at h; obtain⟨rfl,rfl,rfl⟩:=h; omega
  ·simp at h; obtain⟨rfl,rfl,rfl⟩:=h; omega
 ·simp at h
theorem maxO_ok {a b:Option Int}{d z:Int}(ha:∀ d,a=some d→d≤z) (hb:∀ d,b=some d→d≤z) (h:maxO a b=some d):d≤z:=by
 unfold maxO at h
 split at h
 ·rename_i x y
  simp at h; subst h
  have:=ha _ rfl; have:=hb _ rfl
  omega
 ·rename_i x; simp at h; subst h; exact ha _ rfl
 ·exact hb _ h
theorem gapL_ok {E:Env}{x y:SI}{all:List (SB × Bool)}{more:SI→Option Int}(hm:∀ z e,more z=some e→e≤y.den E-z.den E):∀ {l:List (SB × Bool)}{d:Int},(∀ p ∈ l,SB.den E p.1=p.2)→gapL x y all more l=some d→d≤y.den E-x.den E
 | [],d,_,h=>by simp [gapL] at h
 | f::r,d,hl,h=>by
  simp only[gapL] at h
  refine maxO_ok (fun d hd=>?_) (fun d hd=>gapL_ok hm (fun p hp=>hl p (by simp [hp])) hd) h
  split at hd
  ·rename_i p q d' hg
   split at hd
   ·rename_i hc
    obtain⟨rfl,hu⟩:=hc
    have h1:=gap1_ok (hl f (by simp)) hu hg
    split at hd
    ·rename_i e; subst e; simp at hd; omega
    ·split at hd
     ·rename_i e he
      have:=hm _ _ he
      simp at hd; omega
     ·simp at hd
   ·simp at hd
  ·simp at hd
theorem gap_ok {E:Env}{l:List (SB × Bool)}(hG:∀ p ∈ l,SB.den E p.1=p.2) {x y:SI}{d:Int}(h:gap l x y=some d):d≤y.den E-x.den E :=
 gapL_ok (fun z e he=>gapL_ok (fun _ _ h=>by simp at h) hG he) hG h
theorem diffOn_ok {E:Env}{l:List (SB × Bool)}(hG:∀ p ∈ l,SB.den E p.1=p.2) {a b:SI}{t:Bool}(h:diffOn l a b=some t):decide (a.den E<b.den E)=t:=by
 unfold diffOn at h
 split at h
 ·rename_i hc
  obtain⟨c1,c2,_⟩:=hc
  obtain⟨ha,hm⟩:=SI.base_ok (E:=E) a
  obtain⟨hb,_⟩:=SI.base_ok (E:=E) b
  rw[← c1,← c2] at hb
  have yes:1≤b.base.1.den E-a.base.1.den E→a.den E<b.den E:=fun hd=>by
   have h3:=Int.mul_lt_mul_of_pos_left (show a.base.1.den E<b.base.1.den E by omega) hm
   omega
  have no:0≤a.base.1.den E-b.base.1.den E→¬ a.den E<b.den E:=fun hd=>by
   have h3:=Int.mul_le_mul_of_nonneg_left (show b.base.1.den E≤a.base.1.den E by omega) (Int.le_of_lt hm)
   omega
  split at h
  ·rename_i d hd
   have:=gap_ok hG hd
   split at h
   ·simp at h; subst h; exact decide_eq_true (yes (by omega))
   ·split at h
    ·rename_i e he
     have:=gap_ok hG he
     split at h
     ·simp at h; subst h; exact decide_eq_false (no (by omega))
     ·simp at h
    ·simp at h
  ·split at h
   ·rename_i e he
    have:=gap_ok hG he
    split at h
    ·simp at h; subst h; exact decide_eq_false (no (by omega))
    ·simp at h
   ·simp at h
 split at h
 ·simp at h
 rename_i hc
 simp only[Bool.or_eq_true,decide_eq_true_eq,not_or,Decidable.not_not] at hc
 have ha:=(SI.base_ok (E:=E) a).1; have hb:=(SI.base_ok (E:=E) b).1
 rw[hc.1.2] at ha; rw[hc.2] at hb
 split at h
 ·rename_i d hd
  have:=gap_ok hG hd
  split at h
  ·simp at h; subst h; rw[decide_eq_true_iff]; omega
  ·split at h
   ·rename_i e he
    have:=gap_ok hG he
    split at h
    ·simp at h; subst h; rw[decide_eq_false_iff_not]; omega
    ·simp at h
   ·simp at h
 ·split at h
  ·rename_i e he
   have:=gap_ok hG he
   split at h
   ·simp at h; subst h; rw[decide_eq_false_iff_not]; omega
   ·simp at h
  ·simp at h
theorem eqlOn_ok {E:Env}{l:List (SB × Bool)}(hG:∀ p ∈ l,SB.den E p.1=p.2) {a b:SI}{t:Bool}(h:eqlOn l a b=some t):(a.den E == b.den E)=t:=by
 unfold eqlOn at h
 split at h
 ·rename_i h1
  have:=of_decide_eq_true (diffOn_ok hG h1)
  simp at h; subst h
  rw[beq_eq_false_iff_ne]; omega
 ·rename_i h1 h0
  have:=of_decide_eq_true (diffOn_ok hG h1)
  simp at h; subst h
  rw[beq_eq_false_iff_ne]; omega
 ·rename_i h1 h2
  have:=of_decide_eq_false (diffOn_ok hG h1); have:=of_decide_eq_false (diffOn_ok hG h2)
  simp at h; subst h
  rw[beq_iff_eq]; omega
 ·simp at h
theorem orO_some {a b:Option Bool}{t:Bool}(h:orO a b=some t):a=some t∨b=some t:=by
 unfold orO at h
 split at h
 ·exact .inl h
 ·exact .inr h
theorem knowOn_ok {E:Env}{l:List (SB × Bool)}(hG:∀ p ∈ l,SB.den E p.1=p.2) {b:SB}{t:Bool}(h:knowOn l b=some t):b.den E=t:=by
 unfold knowOn at h
 rcases orO_some h with h | h
 ·exact findAsm_ok hG h
 ·split at h
  ·exact diffOn_ok hG h
  ·exact eqlOn_ok hG h
  ·simp at h
theorem derive_ok {E:Env}{l:List (SB × Bool)}(hG:∀ p ∈ l,SB.den E p.1=p.2):∀ {m:List (SB × Bool)},(∀ p ∈ m,SB.den E p.1=p.2)→∀ p ∈ derive l m,SB.den E p.1=p.2
 | [],_,p,hp=>by simp [derive] at hp
 | (b,t)::r,hm,p,hp=>by
  have hr:=derive_ok hG (m:=r) (fun q hq=>hm q (by simp [hq]))
  have hb:=hm (b,t) (by simp)
  cases b with
  | iff x y =>
   simp only[derive,List.mem_append] at hp
   rcases hp with hp | hp
   ·simp only[SB.den] at hb
    split at hp
    ·rename_i u hu
     have:=knowOn_ok hG hu
     simp at hp; subst hp
     simp only
     rw[← hb,this]
     cases x.den E <;> cases u <;> rfl
    ·split at hp
     ·rename_i u hu
      have:=knowOn_ok hG hu
      simp at hp; subst hp
      simp only
      rw[← hb,this]
      cases y.den E <;> cases u <;> rfl
     ·simp at hp
   ·exact hr p hp
  | _=>exact hr p (by simpa only[derive] using hp)
theorem more_ok (hG:G.Ok E):∀ p ∈ G.more,SB.den E p.1=p.2:=by
 intro p hp
 unfold Ctx.more at hp
 split at hp
 ·exact hG.2 p hp
 ·have h1:∀ p ∈ derive G.asm G.asm++G.asm,SB.den E p.1=p.2:=by
   intro p hp
   rcases List.mem_append.1 hp with hp | hp
   ·exact derive_ok hG.2 hG.2 p hp
   ·exact hG.2 p hp
  rcases List.mem_append.1 hp with hp | hp
  ·exact derive_ok h1 hG.2 p hp
  ·exact h1 p hp
theorem SI.rangeS_ok (hG:G.Ok E) {a:SI}{r:Int × Int}(h:a.rangeS G=some r):r.1≤a.den E∧a.den E≤r.2:=by
 unfold SI.rangeS at h
 split at h
 ·simp at h; subst h; simp [SI.den]
 ·split at h
  ·rename_i q hq
   have ht:=tight_ok (R:=SI.range G) (fun a q hq=>SI.range_ok hG hq) (SI.range_ok hG hq) (more_ok hG)
   simp only[Option.some.injEq] at h
   subst h
   exact base_bounds ht
  ·simp at h
theorem SI.rangeW_ok (hG:G.Ok E) {a:SI}{r:Int × Int}(h:a.rangeW G=some r):r.1≤a.den E∧a.den E≤r.2:=by
 unfold SI.rangeW at h
 split at h
 ·rename_i k y
  have hw:=wrap_bounds k (y.den E)
  split at h
  ·rename_i q hq
   have hq':=SI.rangeS_ok hG hq
   split at h
   ·rename_i hk
    simp at h; subst h
    simp [inRange] at hk
    simp only[SI.den]
    rw[wrap_self k _ (by omega) (by omega)]; exact hq'
   ·simp at h; subst h; exact hw
  ·simp at h; subst h; exact hw
 ·split at h
  ·rename_i x y hx hy
   have:=SI.rangeS_ok hG hx; have:=SI.rangeS_ok hG hy
   simp at h; subst h; simp only[SI.den]; omega
  ·simp at h
 ·split at h
  ·rename_i x y hx hy
   have:=SI.rangeS_ok hG hx; have:=SI.rangeS_ok hG hy
   simp at h; subst h; simp only[SI.den]; omega
  ·simp at h
 ·exact SI.range_ok hG h
theorem SI.rangeT_ok (hG:G.Ok E) {a:SI}{r:Int × Int}(h:a.rangeT G=some r):r.1≤a.den E∧a.den E≤r.2:=by
 unfold SI.rangeT at h
 split at h
 ·rename_i n hn
  cases h
  unfold litS? at hn
  split at hn
  ·cases hn; exact⟨Int.le_refl _,Int.le_refl _⟩
  ·simp at hn
 split at h
 ·rename_i q hq
  have hR:∀ a q,SI.rangeS G a=some q→q.1≤a.den E∧a.den E≤q.2:=fun a q hq=>SI.rangeS_ok hG hq
  have ht:=tight_ok hR (tight_ok hR (SI.rangeW_ok hG hq) (more_ok hG)) (more_ok hG)
  simp only[Option.some.injEq] at h
  subst h
  exact base_bounds ht
 ·simp at h
theorem wrapK_den (hG:G.Ok E) (k:IntKind) (a:SI):(wrapK G k a).den E=k.wrap (a.den E):=by
 have h:=mkWrap_den hG k a
 unfold wrapK
 split
 ·rename_i l y e
  rw[e] at h
  split
  ·rename_i q hq
   split
   ·rename_i hr
    have:=SI.rangeT_ok hG hq
    simp only[inRange,Bool.and_eq_true,decide_eq_true_eq] at hr
    rw[← h]
    simp only[SI.den]
    rw[wrap_self l _ (by omega) (by omega)]
   ·exact h
  ·exact h
 ·exact h
theorem remLss_ok (hG:G.Ok E) {a b:SI}{y:Int × Int}{t:Bool}(hy:y.1≤b.den E) (h:remLss G a b y=some t):decide (a.den E<b.den E)=t:=by
 unfold remLss at h
 split at h
 ·rename_i c d
  split at h
  ·rename_i hc
   obtain⟨rfl,h1⟩:=hc
   split at h
   ·rename_i z hz
    have hz:=SI.rangeT_ok hG hz
    split at h
    ·rename_i h0
     simp at h; subst h
     rw[decide_eq_true_iff]
     simp only[SI.den]
     rw[Int.tmod_eq_emod_of_nonneg (by omega)]
     exact Int.emod_lt_of_pos _ (by omega)
    ·simp at h
   ·simp at h
  ·simp at h
 ·simp at h
theorem diffLss_ok (hG:G.Ok E) {a b:SI}{t:Bool}(h:diffLss G a b=some t):decide (a.den E<b.den E)=t:=diffOn_ok (more_ok hG) h
theorem diffEql_ok (hG:G.Ok E) {a b:SI}{t:Bool}(h:diffEql G a b=some t):(a.den E == b.den E)=t:=eqlOn_ok (more_ok hG) h
theorem mulOf_ok (hG:G.Ok E):∀ {x a:SI}{c l h:Int},x.mulOf G=some (a,c,l,h)→a.den E*c+l≤x.den E∧x.den E≤a.den E*c+h
 | .mul a (.lit c'),_,_,_,_,hx=>by
  simp [SI.mulOf] at hx
  obtain⟨rfl,rfl,rfl,rfl⟩:=hx
  simp [SI.den]
 | .add x y,a,c,l,h,hx=>by
  simp only[SI.mulOf] at hx
  split at hx
  ·rename_i a' c' l' h' hm
   split at hx
   ·rename_i q hq
    have h1:=mulOf_ok hG hm
    have h2:=SI.rangeS_ok hG hq
    simp at hx; obtain⟨rfl,rfl,rfl,rfl⟩:=hx
    simp only[SI.den]; omega
   ·simp at hx
  ·split at hx
   ·rename_i a' c' l' h' hm
    split at hx
    ·rename_i q hq
     have h1:=mulOf_ok hG hm
     have h2:=SI.rangeS_ok hG hq
     simp at hx; obtain⟨rfl,rfl,rfl,rfl⟩:=hx
     simp only[SI.den]; omega
    ·simp at hx
   ·simp at hx
 | .mul _ (.var _),_,_,_,_,hx | .mul _ (.add _ _),_,_,_,_,hx | .mul _ (.sub _ _),_,_,_,_,hx | .mul _ (.mul _ _),_,_,_,_,hx | .mul _ (.quo _ _),_,_,_,_,hx | .mul _ (.rem _ _),_,_,_,_,hx | .mul _ (.wrap _ _),_,_,_,_,hx
 | .mul _ (.bits _ _ _ _),_,_,_,_,hx | .mul _ (.shl _ _ _),_,_,_,_,hx | .mul _ (.shr _ _),_,_,_,_,hx | .mul _ (.sel _ _ _),_,_,_,_,hx | .mul _ (.row _),_,_,_,_,hx | .mul _ (.con _),_,_,_,_,hx
 | .mul _ (.upd _ _ _),_,_,_,_,hx | .mul _ (.app _ _ _ _),_,_,_,_,hx | .mul _ (.rmap _ _ _),_,_,_,_,hx | .mul _ (.cnt _ _ _),_,_,_,_,hx
 | .lit _,_,_,_,_,hx | .var _,_,_,_,_,hx | .sub _ _,_,_,_,_,hx | .quo _ _,_,_,_,_,hx | .rem _ _,_,_,_,_,hx | .wrap _ _,_,_,_,_,hx | .bits _ _ _ _,_,_,_,_,hx | .shl _ _ _,_,_,_,_,hx | .shr _ _,_,_,_,_,hx
 | .sel _ _ _,_,_,_,_,hx | .row _,_,_,_,_,hx | .con _,_,_,_,_,hx | .upd _ _ _,_,_,_,_,hx | .app _ _ _ _,_,_,_,_,hx | .rmap _ _ _,_,_,_,_,hx | .cnt _ _ _,_,_,_,_,hx=>by simp [SI.mulOf] at hx
theorem mulGap_ok (hG:G.Ok E) {a d:SI}{g:Int}(h:mulGap G a d=some g):g≤d.den E-a.den E:=by
 unfold mulGap at h
 split at h
 ·rename_i hc
  have ha:=(SI.base_ok (E:=E) a).1; have hd:=(SI.base_ok (E:=E) d).1
  rw[hc.1] at ha; rw[hc.2] at hd
  split at h
  ·rename_i he
   simp at h; subst h
   rw[he] at ha; omega
  ·split at h
   ·rename_i q hq
    have:=gap_ok (more_ok hG) hq
    simp at h; subst h; omega
   ·simp at h
 ·simp at h
theorem mulLss_ok (hG:G.Ok E) {x y:SI}{t:Bool}(hk:mulLss G x y=some t):decide (x.den E<y.den E)=t:=by
 unfold mulLss at hk
 split at hk
 ·rename_i a c l h d e l' h' hx hy
  have h1:=mulOf_ok hG hx; have h2:=mulOf_ok hG hy
  split at hk
  ·rename_i hc
   obtain⟨rfl,hc⟩:=hc
   have up:∀ {k:Int},mulGap G d a=some k→(if h'-k*c≤l then some false else none)=some t→decide (x.den E<y.den E)=t:=by
    intro k hk2 ht
    have hg:=mulGap_ok hG hk2
    split at ht
    ·simp at ht; subst ht
     rw[decide_eq_false_iff_not]
     have h3:=Int.mul_le_mul_of_nonneg_right hg (Int.le_of_lt hc)
     rw[Int.sub_mul] at h3
     omega
    ·simp at ht
   split at hk
   ·rename_i g hgp
    have hg:=mulGap_ok hG hgp
    split at hk
    ·simp at hk; subst hk
     rw[decide_eq_true_iff]
     have h3:=Int.mul_le_mul_of_nonneg_right hg (Int.le_of_lt hc)
     rw[Int.sub_mul] at h3
     omega
    ·split at hk
     ·rename_i k hk2; exact up hk2 hk
     ·simp at hk
   ·split at hk
    ·rename_i k hk2; exact up hk2 hk
    ·simp at hk
  ·simp at hk
 ·simp at hk
theorem knowT_ok (hG:G.Ok E) {b:SB}{t:Bool}(h:knowT G b=some t):b.den E=t:=by
 unfold knowT at h
 split at h
 ·split at h
  ·rename_i x y hx hy
   have:=SI.rangeT_ok hG hx; have:=SI.rangeT_ok hG hy
   split at h
   ·simp at h; subst h; simp only[SB.den]; rw[decide_eq_true_iff]; omega
   ·split at h
    ·simp at h; subst h; simp only[SB.den]; rw[decide_eq_false_iff_not]; omega
    ·rcases orO_some h with h | h
     ·exact remLss_ok hG (by omega) h
     ·rcases orO_some h with h | h
      ·exact diffLss_ok hG h
      ·exact mulLss_ok hG h
  ·simp at h
 ·split at h
  ·rename_i x y hx hy
   have:=SI.rangeT_ok hG hx; have:=SI.rangeT_ok hG hy
   split at h
   ·simp at h; subst h; simp only[SB.den]; rw[beq_eq_false_iff_ne]; omega
   ·split at h
    ·simp at h; subst h; simp only[SB.den]; rw[beq_iff_eq]; omega
    ·exact diffEql_ok hG h
  ·simp at h
 ·simp at h
theorem unw_den (hG:G.Ok E) (a:SI):(unw G a).den E=a.den E:=by
 unfold unw
 split
 ·rename_i k y
  split
  ·rename_i q hq
   have:=SI.rangeS_ok hG hq
   split
   ·rename_i hk
    simp [inRange] at hk
    simp only[SI.den]
    rw[wrap_self k _ (by omega) (by omega)]
   ·rfl
  ·rfl
 ·rfl
theorem unwB_den (hG:G.Ok E) {b c:SB}(h:unwB G b=some c):c.den E=b.den E:=by
 unfold unwB at h
 split at h
 ·split at h
  ·simp at h; subst h; simp only[SB.den,unw_den hG]
  ·simp at h
 ·split at h
  ·simp at h; subst h; simp only[SB.den,unw_den hG]
  ·simp at h
 ·simp at h
def denP (E:Env):List (SI × Int)→Int
 | []=>0
 | p::r=>p.1.den E*p.2+denP E r
theorem denP_append:∀ (l m:List (SI × Int)),denP E (l++m)=denP E l+denP E m
 | [],m=>by simp [denP]
 | p::r,m=>by simp only[List.cons_append,denP,denP_append r m]; omega
theorem scaleP_ok (k:Int):∀ (l:List (SI × Int)),denP E (scaleP k l)=denP E l*k
 | []=>by simp [scaleP,denP]
 | p::r=>by simp only[scaleP,denP,scaleP_ok k r]; rw[Int.add_mul,Int.mul_assoc]
theorem sumParts_ok (a:SI):denP E a.parts.1+a.parts.2=a.den E:=by
 induction a with
 | lit c=>simp [SI.parts,denP,SI.den]
 | add a b iha ihb=>simp only[SI.parts,denP_append,SI.den]; omega
 | mul a b iha ihb =>
  cases b
  case lit c=>simp only[SI.parts,scaleP_ok,SI.den]; rw[← iha,Int.add_mul]
  all_goals simp [SI.parts,denP,SI.den]
 | _=>simp [SI.parts,denP,SI.den]
theorem insP_ok (x:SI × Int):∀ (l:List (SI × Int)),denP E (insP x l)=x.1.den E*x.2+denP E l
 | []=>by simp [insP,denP]
 | y::r=>by
  simp only[insP]
  split
  ·simp [denP]
  ·simp only[denP,insP_ok x r]; omega
theorem sortP_ok:∀ (l:List (SI × Int)),denP E (sortP l)=denP E l
 | []=>rfl
 | x::r=>by simp only[sortP,insP_ok,sortP_ok r,denP]
theorem putP_ok (x:SI) (k:Int):∀ (l:List (SI × Int)),denP E (putP x k l)=x.den E*k+denP E l
 | []=>by
  simp only[putP]
  split
  ·rename_i h; simp [denP,h]
  ·simp [denP]
 | p::r=>by
  simp only[putP]
  split
  ·rename_i h
   split
   ·rename_i h2
    simp only[denP]
    rw[h,← Int.add_assoc,← Int.mul_add,show k+p.2=0 by omega,Int.mul_zero,Int.zero_add]
   ·simp only[denP]
    rw[h,← Int.add_assoc,← Int.mul_add,Int.add_comm k]
  ·simp only[denP,putP_ok x k r]; omega
theorem mergeP_ok:∀ (m l:List (SI × Int)),denP E (mergeP m l)=denP E m+denP E l
 | [],l=>by simp [mergeP,denP]
 | p::r,l=>by simp only[mergeP,mergeP_ok r,putP_ok,denP]; omega
theorem subP_ok (p q:List (SI × Int) × Int):denP E (subP p q).1+(subP p q).2=(denP E p.1+p.2)-(denP E q.1+q.2):=by
 simp only[subP,mergeP_ok,scaleP_ok]; omega
theorem diffP_ok (a b:SI):denP E (diffP a b).1+(diffP a b).2=a.den E-b.den E:=by
 have h1:=sumParts_ok (E:=E) a
 have h2:=sumParts_ok (E:=E) b
 simp only[diffP,mergeP_ok,scaleP_ok,denP]; omega
theorem rangeV_ok {k:Nat}{r:Int × Int}(h0:r.1≤E.int k∧E.int k≤r.2):∀ {l:List (SB × Bool)},(∀ p ∈ l,SB.den E p.1=p.2)→(rangeV k r l).1≤E.int k∧E.int k≤(rangeV k r l).2
 | [],_=>h0
 | p::l,hl=>by
  have ih:=rangeV_ok h0 (l:=l) (fun q hq=>hl q (.tail _ hq))
  have hp:=hl p (.head _)
  simp only[rangeV]
  split
  ·rename_i i n t
   cases e:Nat.beq i k&&!t
   ·simpa using ih
   ·simp only[Bool.and_eq_true,Bool.not_eq_true'] at e
    obtain⟨e1,rfl⟩:=e
    have e1:=Nat.eq_of_beq_eq_true e1
    subst e1
    have hp:¬ E.int i=n:=by simpa [SB.den,SI.den] using hp
    simp only[cond_true]
    split
    ·simp only; omega
    ·split
     ·simp only; omega
     ·exact ih
  ·rename_i i n t
   cases e:Nat.beq i k
   ·simpa using ih
   ·have e1:=Nat.eq_of_beq_eq_true e
    subst e1
    cases t
    ·have hp:¬ E.int i<n:=by simp only[SB.den] at hp; exact of_decide_eq_false hp
     simp only[cond_true,cond_false]; omega
    ·have hp:E.int i<n:=by simp only[SB.den] at hp; exact of_decide_eq_true hp
     simp only[cond_true]; omega
  ·rename_i n i t
   cases e:Nat.beq i k
   ·simpa using ih
   ·have e1:=Nat.eq_of_beq_eq_true e
    subst e1
    cases t
    ·have hp:¬ n<E.int i:=by simp only[SB.den] at hp; exact of_decide_eq_false hp
     simp only[cond_true,cond_false]; omega
    ·have hp:n<E.int i:=by simp only[SB.den] at hp; exact of_decide_eq_true hp
     simp only[cond_true]; omega
  ·exact ih
theorem SI.rangeQ_ok (hG:G.Ok E) {a:SI}{r:Int × Int}(h:a.rangeQ G=some r):r.1≤a.den E∧a.den E≤r.2:=by
 unfold SI.rangeQ at h
 split at h
 ·split at h
  ·rename_i q hq
   cases h
   exact rangeV_ok (hG.1 _ _ hq) hG.2
  ·simp at h
 ·exact SI.range_ok hG h
theorem loP_ok (hG:G.Ok E):∀ {l:List (SI × Int)}{c m:Int},loP G l c=some m→m≤denP E l+c
 | [],c,m,h=>by simp [loP] at h; subst h; simp [denP]
 | p::r,c,m,h=>by
  simp only[loP] at h
  split at h
  ·rename_i q l hq hl
   have h1:=SI.rangeQ_ok hG hq
   have h2:=loP_ok hG hl
   simp at h; subst h
   simp only[denP]
   split
   ·rename_i hk
    have:=Int.mul_le_mul_of_nonneg_right h1.1 hk
    omega
   ·rename_i hk
    have:=Int.mul_le_mul_of_nonpos_right h1.2 (show p.2≤0 by omega)
    omega
  ·simp at h
theorem geP_ok (hG:G.Ok E) {d:List (SI × Int) × Int}(h:geP G d=true):0≤denP E d.1+d.2:=by
 unfold geP at h
 split at h
 ·rename_i l hl
  have:=loP_ok hG hl
  have h:=of_decide_eq_true h
  omega
 ·simp at h
theorem factP_ok {f:SB × Bool}(h:f.1.den E=f.2):∀ p ∈ factP f,0≤denP E p.1+p.2:=by
 intro p hp
 unfold factP at hp
 split at hp
 ·rename_i a b
  simp only[List.mem_singleton] at hp
  subst hp
  have:=diffP_ok (E:=E) b a
  simp [SB.den] at h
  simp only; omega
 ·rename_i a b
  simp only[List.mem_singleton] at hp
  subst hp
  have:=diffP_ok (E:=E) a b
  simp [SB.den] at h
  omega
 ·rename_i a b
  have h1:=diffP_ok (E:=E) a b
  have h2:=diffP_ok (E:=E) b a
  simp [SB.den] at h
  simp only[List.mem_cons,List.not_mem_nil,or_false] at hp
  rcases hp with rfl | rfl <;> omega
 ·simp at hp
theorem factsP_ok:∀ {l:List (SB × Bool)},(∀ p ∈ l,SB.den E p.1=p.2)→∀ p ∈ factsP l,0≤denP E p.1+p.2
 | [],_,p,hp=>by simp [factsP] at hp
 | x::r,h,p,hp=>by
  simp only[factsP,List.mem_append] at hp
  rcases hp with hp | hp
  ·exact factP_ok (h x (by simp)) p hp
  ·exact factsP_ok (fun q hq=>h q (by simp [hq])) p hp
theorem geBy_ok (hG:G.Ok E) {all:List (List (SI × Int) × Int)}(ha:∀ p ∈ all,0≤denP E p.1+p.2):∀ {n:Nat}{d:List (SI × Int) × Int},geBy G all d n=true→0≤denP E d.1+d.2
 | 0,d,h=>geP_ok hG h
 | n+1,d,h=>by
  simp only[geBy,Bool.or_eq_true,List.any_eq_true,Bool.and_eq_true] at h
  rcases h with h | ⟨f,hf,_,h⟩
  ·exact geP_ok hG h
  ·have h1:=geBy_ok hG ha h
   have h2:=ha f hf
   rw[subP_ok] at h1
   omega
theorem linLss_ok (hG:G.Ok E) {all:List (List (SI × Int) × Int)}(ha:∀ p ∈ all,0≤denP E p.1+p.2) {a b:SI}{t:Bool}(h:linLss G all a b=some t):decide (a.den E<b.den E)=t:=by
 unfold linLss at h
 simp only at h
 have hd:=diffP_ok (E:=E) b a
 split at h
 ·rename_i h1
  have:=geBy_ok hG ha h1
  simp at h; subst h
  simp only at this
  simp; omega
 ·split at h
  ·rename_i h1
   have:=geBy_ok hG ha h1
   simp at h; subst h
   simp only[scaleP_ok] at this
   simp; omega
  ·simp at h
theorem linK_ok (hG:G.Ok E) {b:SB}{t:Bool}(h:linK G b=some t):b.den E=t:=by
 unfold linK at h
 have ha:=factsP_ok (more_ok hG)
 split at h
 ·exact linLss_ok hG ha h
 ·rename_i a b
  simp only at h
  split at h
  ·rename_i h1
   have:=linLss_ok hG ha h1
   simp at h; subst h
   simp at this
   simp [SB.den]; omega
  ·rename_i h1
   have:=linLss_ok hG ha h1
   split at h
   ·rename_i h2
    have:=linLss_ok hG ha h2
    simp at h; subst h
    simp at this
    simp [SB.den]; omega
   ·rename_i h2
    have h3:=linLss_ok hG ha h2
    simp at h; subst h
    simp at this h3
    simp [SB.den]; omega
   ·simp at h
  ·split at h
   ·rename_i h2
    have h3:=linLss_ok hG ha h2
    simp at h; subst h
    simp at h3
    simp [SB.den]; omega
   ·simp at h
 ·simp at h
theorem knowE_ok (hG:G.Ok E) {s:SB}{t:Bool}(h:knowE G s=some t):s.den E=t:=by
 unfold knowE at h
 rcases orO_some h with h | h
 ·exact findAsm_ok hG.2 h
 ·exact knowT_ok hG h
theorem conjE_ok (hG:G.Ok E) {s t:SB}{b:Bool}(h:conjE G s t=.inl b):(s.den E&&t.den E)=b:=by
 unfold conjE at h
 split at h
 ·rename_i h1; simp at h; subst h; simp [knowE_ok hG h1]
 ·rename_i h1
  split at h
  ·rename_i h2; simp at h; subst h; simp [knowE_ok hG h1,knowE_ok hG h2]
  ·simp at h
 ·split at h
  ·rename_i h2; simp at h; subst h; simp [knowE_ok hG h2]
  ·simp at h
theorem eqlP1_ok (hG:G.Ok E) {f a:SI}{m k c n:Int}{b:Bool}(h:eqlP1 G f a m k c n=some (.inl b)):(f.den E*m+a.den E*k+c == n)=b:=by
 unfold eqlP1 at h
 split at h
 case isFalse=>simp at h
 rename_i hp
 split at h
 case h_2=>simp at h
 rename_i r hr
 simp only at h
 have hf:=SI.rangeT_ok hG hr
 generalize hl : -((-(n-c-m*r.2)) / k)=l at h
 generalize hh:(n-c-m*r.1) / k=q at h
 have m1:m*r.1≤f.den E*m:=by rw[Int.mul_comm (f.den E)]; exact Int.mul_le_mul_of_nonneg_left hf.1 (by omega)
 have m2:f.den E*m≤m*r.2:=by rw[Int.mul_comm (f.den E)]; exact Int.mul_le_mul_of_nonneg_left hf.2 (by omega)
 have key:f.den E*m+a.den E*k+c=n→l≤a.den E∧a.den E≤q:=by
  intro e
  constructor
  ·rw[← hl]
   have : -(a.den E)≤(-(n-c-m*r.2)) / k:=by
    rw[Int.le_ediv_iff_mul_le hp.2]
    rw[Int.neg_mul]; omega
   omega
  ·rw[← hh,Int.le_ediv_iff_mul_le hp.2]; omega
 split at h
 ·rename_i hlt
  simp at h; subst h
  rw[beq_eq_false_iff_ne]
  intro e
  have:=key e
  omega
 ·split at h
  ·rename_i hne heq
   subst heq
   split at h
   ·rename_i hmod
    simp at h; subst h
    rw[beq_eq_false_iff_ne]
    intro e
    have ha:=key e
    have:a.den E=l:=by omega
    rw[this,Int.mul_comm l] at e
    apply hmod
    rw[show n-c-k*l=f.den E*m by omega]
    exact Int.mul_emod_left _ _
   ·rename_i hmod
    have hmod:(n-c-k*l) % m=0:=by omega
    simp only[Option.some.injEq] at h
    have:=conjE_ok hG h
    rw[← this]
    simp only[SB.den,SI.den]
    have e2:m*((n-c-k*l) / m)=n-c-k*l:=by have:=Int.mul_ediv_add_emod (n-c-k*l) m; omega
    rw[Bool.eq_iff_iff]
    simp only[beq_iff_eq,Bool.and_eq_true]
    constructor
    ·intro e
     have ha:=key e
     have:a.den E=l:=by omega
     refine⟨this,?_⟩
     rw[this,Int.mul_comm l] at e
     rw[show n-c-k*l=f.den E*m by omega,Int.mul_ediv_cancel _ (by omega)]
    ·rintro ⟨e,e'⟩
     rw[e,e',Int.mul_comm l,Int.mul_comm _ m,e2]; omega
  ·simp at h
theorem eqlP0_ok (hG:G.Ok E) {a:SI}{k c n:Int}{b:Bool}(h:eqlP0 G a k c n=some (.inl b)):(a.den E*k+c == n)=b:=by
 unfold eqlP0 at h
 split at h
 case isFalse=>simp at h
 rename_i hk
 split at h
 ·rename_i hm
  simp at h; subst h
  rw[beq_eq_false_iff_ne]
  intro e
  apply hm
  rw[show n-c=a.den E*k by omega]
  exact Int.mul_emod_left _ _
 ·rename_i hm
  have hm:(n-c) % k=0:=by omega
  split at h
  ·rename_i t ht
   simp at h; subst h
   have:=knowE_ok hG ht
   rw[← this]
   simp only[SB.den,SI.den]
   have e2:k*((n-c) / k)=n-c:=by have:=Int.mul_ediv_add_emod (n-c) k; omega
   rw[Bool.eq_iff_iff]
   simp only[beq_iff_eq]
   constructor
   ·intro e
    rw[show n-c=a.den E*k by omega,Int.mul_ediv_cancel _ (by omega)]
   ·intro e
    rw[e,Int.mul_comm,e2]; omega
  ·simp at h
theorem eqlP_ok (hG:G.Ok E) {x y:SI}{b:Bool}(h:eqlP G x y=some (.inl b)):(x.den E == y.den E)=b:=by
 have px:=sumParts_ok (E:=E) x
 have py:=sumParts_ok (E:=E) y
 have sx:=sortP_ok (E:=E) x.parts.1
 have sy:=sortP_ok (E:=E) y.parts.1
 unfold eqlP at h
 split at h
 ·rename_i a k h1 h2
  rw[h1] at sx; rw[h2] at sy
  simp only[denP] at sx sy
  have:=eqlP0_ok hG h
  rw[← this,← px,← py,← sx,← sy]
  simp
 ·rename_i a k h1 h2
  rw[h1] at sx; rw[h2] at sy
  simp only[denP] at sx sy
  have:=eqlP0_ok hG h
  rw[← this,← px,← py,← sx,← sy,Bool.eq_iff_iff]
  simp only[beq_iff_eq]
  constructor <;> intro <;> omega
 ·rename_i f m a k h1 h2
  rw[h1] at sx; rw[h2] at sy
  simp only[denP] at sx sy
  have:=eqlP1_ok hG h
  rw[← this,← px,← py,← sx,← sy]
  simp
 ·rename_i f m a k h1 h2
  rw[h1] at sx; rw[h2] at sy
  simp only[denP] at sx sy
  have:=eqlP1_ok hG h
  rw[← this,← px,← py,← sx,← sy,Bool.eq_iff_iff]
  simp only[beq_iff_eq]
  constructor <;> intro <;> omega
 ·rename_i f m a k g m' b' k' h1 h2
  rw[h1] at sx; rw[h2] at sy
  simp only[denP] at sx sy
  split at h
  case isFalse=>simp at h
  rename_i hc
  obtain⟨rfl,rfl,hcc,hm,hk⟩:=hc
  split at h
  case h_2=>simp at h
  rename_i r q hr hq
  split at h
  case isFalse=>simp at h
  rename_i hb
  simp only[Option.some.injEq] at h
  have:=conjE_ok hG h
  have hf:=SI.rangeT_ok hG hr
  have hg:=SI.rangeT_ok hG hq
  rw[← this,← px,← py,← sx,← sy,← hcc,Bool.eq_iff_iff]
  simp only[SB.den,beq_iff_eq,Bool.and_eq_true]
  constructor
  ·intro e
   have d1:(f.den E-g.den E)*m≤(r.2-q.1)*m:=Int.mul_le_mul_of_nonneg_right (by omega) (by omega)
   have d2:(g.den E-f.den E)*m≤(q.2-r.1)*m:=Int.mul_le_mul_of_nonneg_right (by omega) (by omega)
   rw[Int.mul_comm m,Int.mul_comm m] at hb
   rw[Int.sub_mul] at d1 d2
   have e1:(a.den E-b'.den E)*k=(g.den E-f.den E)*m:=by rw[Int.sub_mul,Int.sub_mul]; omega
   have e2:(b'.den E-a.den E)*k=(f.den E-g.den E)*m:=by rw[Int.sub_mul,Int.sub_mul]; omega
   have l1:a.den E-b'.den E<1:=by
    refine Int.lt_of_mul_lt_mul_right (?_:(a.den E-b'.den E)*k<1*k) (by omega)
    rw[e1,Int.one_mul,Int.sub_mul]; omega
   have l2:b'.den E-a.den E<1:=by
    refine Int.lt_of_mul_lt_mul_right (?_:(b'.den E-a.den E)*k<1*k) (by omega)
    rw[e2,Int.one_mul,Int.sub_mul]; omega
   have ea:a.den E=b'.den E:=by omega
   refine⟨ea,?_⟩
   rw[ea] at e
   have:f.den E*m=g.den E*m:=by omega
   exact Int.eq_of_mul_eq_mul_right (by omega) this
  ·rintro ⟨e,e'⟩
   rw[e,e']
 ·simp at h
theorem eqlK_ok (hG:G.Ok E) {b:SB}{t:Bool}(h:eqlK G b=some t):b.den E=t:=by
 unfold eqlK at h
 split at h
 ·rename_i x y
  split at h
  ·rename_i u hu
   simp at h; subst h
   exact eqlP_ok hG hu
  ·simp at h
 ·simp at h
theorem quickL_ok (hG:G.Ok E) {j:Int}{k:Nat}{t:Bool}(h:quickL G j k=some t):decide (j<E.int k)=t:=by
 unfold quickL at h
 split at h
 ·rename_i r hr
  have hk:=rangeV_ok (hG.1 _ _ hr) hG.2
  simp only at h
  split at h
  ·cases h; simp only[decide_eq_true_eq]; omega
  ·split at h
   ·cases h; simp only[decide_eq_false_iff_not]; omega
   ·simp at h
 ·simp at h
theorem pairE_ok {i j:Nat}:∀ {l:List (SB × Bool)}{t:Bool},(∀ p ∈ l,SB.den E p.1=p.2)→pairE i j l=some t→(E.int i == E.int j)=t
 | [],t,_,h=>by simp [pairE] at h
 | p::r,t,hl,h=>by
  have hr:∀ p ∈ r,SB.den E p.1=p.2:=fun q hq=>hl q (.tail _ hq)
  have hp:=hl p (.head _)
  unfold pairE at h
  split at h
  ·rename_i a b u
   cases e:((Nat.beq a i&&Nat.beq b j)||(Nat.beq a j&&Nat.beq b i))
   ·rw[e,cond_false] at h; exact pairE_ok hr h
   ·rw[e,cond_true] at h
    cases h
    have hp:(E.int a == E.int b)=t:=hp
    rw[Bool.or_eq_true,Bool.and_eq_true,Bool.and_eq_true] at e
    rcases e with ⟨e1,e2⟩ | ⟨e1,e2⟩
    ·rw[← Nat.eq_of_beq_eq_true e1,← Nat.eq_of_beq_eq_true e2]; exact hp
    ·rw[← Nat.eq_of_beq_eq_true e1,← Nat.eq_of_beq_eq_true e2,← hp]
     exact Bool.eq_iff_iff.2 ⟨fun h=>beq_iff_eq.2 (beq_iff_eq.1 h).symm,fun h=>beq_iff_eq.2 (beq_iff_eq.1 h).symm⟩
  ·exact pairE_ok hr h
theorem varS_ok {a:SI}{i:Nat}(h:varS a=some i):a=.var i:=by
 unfold varS at h
 split at h
 ·cases h; rfl
 ·simp at h
theorem pairQ_ok (hG:G.Ok E) {a b:SI}{t:Bool}(h:pairQ G a b=some t):(a.den E == b.den E)=t:=by
 unfold pairQ at h
 split at h
 ·rename_i i j hi hj
  split at h
  ·rename_i hc
   have h1:=pairE_ok hG.2 h
   have ha:=(SI.base_ok (E:=E) a).1
   have hb:=(SI.base_ok (E:=E) b).1
   rw[varS_ok hi] at ha
   rw[varS_ok hj] at hb
   simp only[SI.den] at ha hb
   rw[← h1]
   apply Bool.eq_iff_iff.2
   simp only[beq_iff_eq]
   rw[hc.1,hc.2.1] at ha
   constructor
   ·intro he
    have:b.base.2.1*E.int i=b.base.2.1*E.int j:=by omega
    exact Int.eq_of_mul_eq_mul_left (by rw[← hc.1]; exact hc.2.2) this
   ·intro he
    rw[he] at ha
    omega
  ·simp at h
 ·simp at h
theorem quickK_ok (hG:G.Ok E) {b:SB}{t:Bool}(h:quickK G b=some t):b.den E=t:=by
 unfold quickK at h
 split at h
 ·exact quickL_ok hG h
 ·rename_i k j
  split at h
  ·rename_i u hu
   have:=quickL_ok hG hu
   cases h
   rw[← this]
   show decide (E.int k<j)=!decide (j-1<E.int k)
   rw[← decide_not]
   exact decide_eq_decide.2 (by omega)
  ·simp at h
 ·rename_i j k c
  have:=quickL_ok hG h
  rw[← this]
  show decide (j<E.int k+c)=decide (j-c<E.int k)
  exact decide_eq_decide.2 (by omega)
 ·exact pairQ_ok hG h
 ·simp at h
theorem sameQ_ok (hG:G.Ok E) {a b:SI}{t:Bool}(h:sameQ G a b=some t):(a.den E == b.den E)=t:=by
 unfold sameQ at h
 split at h
 ·rename_i e; subst e; simp at h; subst h; simp
 ·exact pairQ_ok hG h
theorem viaE_ok (hG:G.Ok E) {a b:SI}:∀ {l:List (SB × Bool)}{t:Bool},(∀ p ∈ l,SB.den E p.1=p.2)→viaE G a b l=some t→(a.den E == b.den E)=t
 | [],t,_,h=>by simp [viaE] at h
 | p::r,t,hl,h=>by
  have hr:∀ p ∈ r,SB.den E p.1=p.2:=fun q hq=>hl q (.tail _ hq)
  have hp:=hl p (.head _)
  unfold viaE at h
  rcases orO_some h with h | h
  ·split at h
   ·rename_i x y _
    have he:x.den E=y.den E:=by simpa [SB.den] using hp
    split at h
    ·rename_i e; rw[← e,he]; exact sameQ_ok hG h
    ·split at h
     ·rename_i e; rw[← e,he]; exact sameQ_ok hG h
     ·split at h
      ·rename_i e; rw[← e,← he]; exact sameQ_ok hG h
      ·split at h
       ·rename_i e; rw[← e,← he]; exact sameQ_ok hG h
       ·simp at h
   ·rename_i x y _
    have he:¬ x.den E=y.den E:=by simpa [SB.den] using hp
    split at h
    ·rename_i e
     obtain⟨e1,e2⟩:=e
     simp at h; subst h
     rw[← e1,← e2]
     simpa using fun e=>he e.symm
    ·simp at h
   ·simp at h
  ·exact viaE_ok hG hr h
theorem viaK_ok (hG:G.Ok E) {b:SB}{t:Bool}(h:viaK G b=some t):b.den E=t:=by
 unfold viaK at h
 split at h
 ·exact viaE_ok hG hG.2 h
 ·simp at h
theorem SB.know_ok (hG:G.Ok E):∀ {b:SB}{t:Bool},b.know G=some t→b.den E=t:=by
 intro b
 induction b with
 | lit b=>intro t h; simpa [SB.know,SB.den] using h
 | not a ih =>
  intro t h
  simp only[SB.know] at h
  split at h
  ·rename_i u hu; simp at h; subst h; simp [SB.den,ih hu]
  ·simp at h
 | iff a b iha ihb =>
  intro t h
  simp only[SB.know] at h
  split at h
  ·rename_i s u hs hu; simp at h; subst h; simp [SB.den,iha hs,ihb hu]
  ·simp at h
 | _ =>
  intro t h
  simp only[SB.know] at h
  split at h
  ·rename_i u hu; simp at h; subst h; exact findAsm_ok hG.2 hu
  ·rcases orO_some h with h | h
   ·exact quickK_ok hG h
   ·rcases orO_some h with h | h
    ·exact knowT_ok hG h
    ·rcases orO_some h with h | h
     ·split at h
      ·rename_i c hc
       rw[← unwB_den hG hc]; exact findAsm_ok hG.2 h
      ·simp at h
     ·rcases orO_some h with h | h
      ·split at h
       ·simp at h
       ·exact findAsm_ok (more_ok hG) h
      ·rcases orO_some h with h | h
       ·exact eqlK_ok hG h
       ·rcases orO_some h with h | h
        ·exact viaK_ok hG h
        ·exact linK_ok hG h
theorem quickE_ok {k:Nat}{j:Int}:∀ {l:List (SB × Bool)}{t:Bool},(∀ p ∈ l,SB.den E p.1=p.2)→quickE k j l=some t→SB.den E (.eql (.var k) (.lit j))=t
 | [],t,_,h=>by simp [quickE] at h
 | p::r,t,hl,h=>by
  have hr:∀ p ∈ r,SB.den E p.1=p.2:=fun q hq=>hl q (.tail _ hq)
  have hp:=hl p (.head _)
  unfold quickE at h
  split at h
  ·rename_i i n u
   cases e:Nat.beq i k
   ·rw[e,cond_false] at h; exact quickE_ok hr h
   ·rw[e,cond_true] at h
    have e:=Nat.eq_of_beq_eq_true e
    subst e
    simp only[SB.den,SI.den] at hp ⊢
    cases u
    ·rw[cond_false] at h
     cases e2:decide (n=j)
     ·rw[e2,cond_false] at h; exact quickE_ok hr h
     ·rw[e2,cond_true,Option.some.injEq] at h
      have e2:=of_decide_eq_true e2
      subst e2 h; exact hp
    ·rw[cond_true,Option.some.injEq] at h
     subst h
     have hp:E.int i=n:=by simpa using hp
     rw[hp]
     by_cases e3:n=j
     ·simp [e3]
     ·simp [e3]
  ·exact quickE_ok hr h
theorem SB.knowG_ok (hG:G.Ok E) {b:SB}{t:Bool}(h:b.knowG G=some t):b.den E=t:=by
 unfold SB.knowG at h
 split at h
 ·exact quickL_ok hG h
 ·rename_i j k c
  have:=quickL_ok hG h
  rw[← this]
  show decide (j<E.int k+c)=decide (j-c<E.int k)
  exact decide_eq_decide.2 (by omega)
 ·rename_i k j
  split at h
  ·rename_i u hu
   cases h
   exact quickE_ok hG.2 hu
  ·cases e:saysOf k G.asm
   ·rw[e] at h; simp at h
   ·rw[e,cond_true] at h
    split at h
    ·rename_i r hr
     have hk:=rangeV_ok (rangeV_ok (hG.1 _ _ hr) hG.2) hG.2
     simp only at h
     split at h
     ·rename_i hc
      cases h
      simp only[SB.den,SI.den,beq_eq_false_iff_ne,ne_eq]
      omega
     ·split at h
      ·cases h
       simp only[SB.den,SI.den,beq_iff_eq]
       omega
      ·simp at h
    ·simp at h
 ·exact SB.know_ok hG h
theorem Ctx.Ok.cons {G:Ctx}{E:Env}(h:G.Ok E) {b:SB}{t:Bool}(hb:b.den E=t):({ G with asm:=(b,t)::G.asm }:Ctx).Ok E :=
 ⟨h.1,fun p hp=>by
  rcases List.mem_cons.1 hp with rfl | hp
  ·exact hb
  ·exact h.2 p hp⟩
structure Env.le (E E':Env):Prop where
 loc:∀ id b,E.loc id=some b→E'.loc id=some b
 cap:∀ id b,E.loc id=some b→E'.cap id=E.cap id
 int:E'.int=E.int
 bool:E'.bool=E.bool
 row:E'.row=E.row
 val:E'.val=E.val
theorem Env.le.refl (E:Env):E.le E:=⟨fun _ _ h=>h,fun _ _ _=>rfl,rfl,rfl,rfl,rfl⟩
theorem Env.le.trans {A B C:Env}(h:A.le B) (k:B.le C):A.le C :=
 ⟨fun id b e=>k.loc id b (h.loc id b e),fun id b e=>(k.cap id b (h.loc id b e)).trans (h.cap id b e),k.int.trans h.int,k.bool.trans h.bool,k.row.trans h.row,k.val.trans h.val⟩
theorem SI.den_le2 {E E':Env}(h:E.le E') (a:SI):a.den E'=a.den E∧∀ j,a.cells E' j=a.cells E j:=by
 induction a <;> simp_all [SI.den,SI.cells,h.int,h.row]
theorem SI.den_le {E E':Env}(h:E.le E') (a:SI):a.den E'=a.den E:=(SI.den_le2 h a).1
theorem SI.cells_le {E E':Env}(h:E.le E') (a:SI) (j:Int):a.cells E' j=a.cells E j:=(SI.den_le2 h a).2 j
theorem SB.den_le {E E':Env}(h:E.le E') (a:SB):a.den E'=a.den E:=by
 induction a <;> simp_all [SB.den,h.bool,SI.den_le h]
theorem Ctx.Ok.le {G:Ctx}{E E':Env}(hG:G.Ok E) (h:E.le E'):G.Ok E' :=
 ⟨fun i r hr=>by rw[h.int]; exact hG.1 i r hr,fun p hp=>by rw[SB.den_le h]; exact hG.2 p hp⟩
mutual
theorem VRel.le {E E':Env}(h:E.le E'):∀ {a:AV}{v:Value},VRel E a v→VRel E' a v
 | .bool b,v,hv=>by simp only[VRel] at hv ⊢; rw[SB.den_le h]; exact hv
 | .int k n,v,hv=>by simp only[VRel] at hv ⊢; rw[SI.den_le h]; exact hv
 | .str s,v,hv=>by simpa only[VRel] using hv
 | .nilPtr,v,hv=>by simpa only[VRel] using hv
 | .ptr id off,v,hv=>by
  simp only[VRel] at hv ⊢
  obtain⟨b,hb,h0,rfl⟩:=hv
  exact⟨b,h.loc _ _ hb,by rw[SI.den_le h]; exact h0,by rw[SI.den_le h]⟩
 | .nilSlice,v,hv=>by simpa only[VRel] using hv
 | .slice id off len cap,v,hv=>by
  simp only[VRel] at hv ⊢
  obtain⟨b,hb,h0,rfl⟩:=hv
  exact⟨b,h.loc _ _ hb,by rw[SI.den_le h]; exact h0,by rw[SI.den_le h,SI.den_le h,SI.den_le h]⟩
 | .slack id skip size len,v,hv=>by
  simp only[VRel] at hv ⊢
  obtain⟨b,hb,hl,rfl⟩:=hv
  exact⟨b,h.loc _ _ hb,by rw[h.cap _ _ hb]; exact hl,by rw[h.cap _ _ hb]⟩
 | .empty full,v,hv=>by simpa only[VRel] using hv
 | .nilMap,v,hv=>by simpa only[VRel] using hv
 | .map id,v,hv=>by
  simp only[VRel] at hv ⊢
  obtain⟨b,hb,rfl⟩:=hv
  exact⟨b,h.loc _ _ hb,rfl⟩
 | .nilChan,v,hv=>by simpa only[VRel] using hv
 | .chan id,v,hv=>by
  simp only[VRel] at hv ⊢
  obtain⟨b,hb,rfl⟩:=hv
  exact⟨b,h.loc _ _ hb,rfl⟩
 | .func fn first captured,v,hv=>by
  simp only[VRel] at hv ⊢
  obtain⟨f,c,hn,hf,hc,rfl⟩:=hv
  exact⟨f,c,hn,VRelL.le h hf,VRelL.le h hc,rfl⟩
 | .yieldF l,v,hv=>by
  simp only[VRel] at hv ⊢
  obtain⟨b,hb,rfl⟩:=hv
  exact⟨b,h.loc _ _ hb,rfl⟩
 | .nilFunc,v,hv=>by simpa only[VRel] using hv
 | .iface t x,v,hv=>by
  simp only[VRel] at hv ⊢
  obtain⟨y,hy,rfl⟩:=hv
  exact⟨y,VRel.le h hy,rfl⟩
 | .nilIface,v,hv=>by simpa only[VRel] using hv
 | .agg cs,v,hv=>by
  simp only[VRel] at hv ⊢
  obtain⟨vs,hy,rfl⟩:=hv
  exact⟨vs,VRelL.le h hy,rfl⟩
 | .tuple cs,v,hv=>by
  simp only[VRel] at hv ⊢
  obtain⟨vs,hy,rfl⟩:=hv
  exact⟨vs,VRelL.le h hy,rfl⟩
 | .raw i,v,hv=>by simp only[VRel] at hv ⊢; rw[h.val]; exact hv
 | .any,v,hv=>trivial
 | .ite s x y,v,hv=>by
  simp only[VRel] at hv ⊢
  exact⟨fun hs=>VRel.le h (hv.1 (by rw[← SB.den_le h]; exact hs)),fun hs=>VRel.le h (hv.2 (by rw[← SB.den_le h]; exact hs))⟩
 | .oslice id size len,v,hv=>by
  simp only[VRel] at hv ⊢
  obtain⟨b,hb,h0,hl,rfl⟩:=hv
  exact⟨b,h.loc _ _ hb,by rw[SI.den_le h]; exact h0,by rw[SI.den_le h,h.cap _ _ hb]; exact hl,by rw[SI.den_le h,h.cap _ _ hb]⟩
theorem VRelL.le {E E':Env}(h:E.le E'):∀ {a:List AV}{v:List Value},VRelL E a v→VRelL E' a v
 | [],v,hv=>by simpa only[VRelL] using hv
 | x::xs,v,hv=>by
  simp only[VRelL] at hv ⊢
  obtain⟨y,ys,hy,hys,rfl⟩:=hv
  exact⟨y,ys,VRel.le h hy,VRelL.le h hys,rfl⟩
end
theorem VRelL.length {E:Env}:∀ {a:List AV}{v:List Value},VRelL E a v→v.length=a.length
 | [],v,h=>by simp only[VRelL] at h; simp [h]
 | x::xs,v,h=>by
  simp only[VRelL] at h
  obtain⟨y,ys,_,hys,rfl⟩:=h
  simp [VRelL.length hys]
theorem VRelL.nil {E:Env}:VRelL E [] []:=by simp [VRelL]
theorem VRelL.cons {E:Env}{x:AV}{y:Value}{xs:List AV}{ys:List Value}(h:VRel E x y) (hs:VRelL E xs ys):VRelL E (x::xs) (y::ys):=by
 simp only[VRelL]; exact⟨y,ys,h,hs,rfl⟩
theorem VRelL.append {E:Env}:∀ {a b:List AV}{v u:List Value},VRelL E a v→VRelL E b u→VRelL E (a++b) (v++u)
 | [],b,v,u,h,k=>by simp only[VRelL] at h; subst h; exact k
 | x::xs,b,v,u,h,k=>by
  simp only[VRelL] at h
  obtain⟨y,ys,hy,hys,rfl⟩:=h
  exact VRelL.cons hy (VRelL.append hys k)
theorem VRelL.get {E:Env}:∀ {a:List AV}{v:List Value}{i:Nat}{x:AV},VRelL E a v→a[i]?=some x→∃ y,v[i]?=some y∧VRel E x y
 | [],v,i,x,h,hi=>by simp at hi
 | x::xs,v,i,z,h,hi=>by
  simp only[VRelL] at h
  obtain⟨y,ys,hy,hys,rfl⟩:=h
  cases i with
  | zero=>simp at hi; subst hi; exact⟨y,rfl,hy⟩
  | succ i=>simpa using VRelL.get hys (by simpa using hi)
theorem VRelL.set {E:Env}:∀ {a:List AV}{v:List Value}(i:Nat) {x:AV}{y:Value},VRelL E a v→VRel E x y→VRelL E (a.set i x) (v.set i y)
 | [],v,i,x,y,h,hx=>by simp only[VRelL] at h; subst h; simp [VRelL]
 | z::zs,v,i,x,y,h,hx=>by
  simp only[VRelL] at h
  obtain⟨u,us,hu,hus,rfl⟩:=h
  cases i with
  | zero=>exact VRelL.cons hx hus
  | succ i=>exact VRelL.cons hu (VRelL.set i hus hx)
theorem VRelL.drop {E:Env}:∀ {a:List AV}{v:List Value}(n:Nat),VRelL E a v→VRelL E (a.drop n) (v.drop n)
 | a,v,0,h=>by simpa using h
 | [],v,n+1,h=>by simp only[VRelL] at h; subst h; simp [VRelL]
 | x::xs,v,n+1,h=>by
  simp only[VRelL] at h
  obtain⟨y,ys,_,hys,rfl⟩:=h
  simpa using VRelL.drop n hys
theorem VRelL.take {E:Env}:∀ {a:List AV}{v:List Value}(n:Nat),VRelL E a v→VRelL E (a.take n) (v.take n)
 | a,v,0,h=>by simp [VRelL]
 | [],v,n+1,h=>by simp only[VRelL] at h; subst h; simp [VRelL]
 | x::xs,v,n+1,h=>by
  simp only[VRelL] at h
  obtain⟨y,ys,hy,hys,rfl⟩:=h
  simpa using VRelL.cons hy (VRelL.take n hys)
theorem VRelL.map {E:Env}{α:Type}(f:α→AV) (g:α→Value):∀ (l:List α),(∀ x ∈ l,VRel E (f x) (g x))→VRelL E (l.map f) (l.map g)
 | [],_=>by simp [VRelL]
 | x::xs,h=>VRelL.cons (h x (by simp)) (VRelL.map f g xs (fun y hy=>h y (by simp [hy])))
theorem VRel.undef {E:Env}:VRel E undefA undef:=by
 simp only[undefA,VRel]; exact⟨[],VRelL.nil,rfl⟩
theorem ofFlat_ok {E:Env}{v:Value}{a:AV}(h:ofConst.ofFlat v=some a):VRel E a v:=by
 unfold ofConst.ofFlat at h
 split at h <;> simp at h <;> subst h <;> simp [VRel,SB.den,SI.den]
theorem mapM_ofFlat {E:Env}:∀ {l:List Value}{r:List AV},l.mapM ofConst.ofFlat=some r→VRelL E r l
 | [],r,h=>by simp at h; subst h; exact VRelL.nil
 | x::xs,r,h=>by
  simp only[List.mapM_cons,Option.bind_eq_bind,Option.pure_def,Option.bind_eq_some_iff] at h
  obtain⟨a,ha,as,has,hr⟩:=h
  simp at hr; subst hr
  exact VRelL.cons (ofFlat_ok ha) (mapM_ofFlat has)
theorem ofConst_ok {E:Env}{v:Value}{a:AV}(h:ofConst v=some a):VRel E a v:=by
 unfold ofConst at h
 split at h
 case h_10 cs =>
  simp at h
  obtain⟨r,hr,rfl⟩:=h
  simp only[VRel]
  exact⟨cs.toList,mapM_ofFlat hr,by simp⟩
 case h_11 cs =>
  simp at h
  obtain⟨r,hr,rfl⟩:=h
  simp only[VRel]
  exact⟨cs.toList,mapM_ofFlat hr,by simp⟩
 all_goals (simp at h; try (subst h; simp [VRel,SB.den,SI.den]))
theorem mkSel_den {G:Ctx}{E:Env}(hG:G.Ok E) (k:IntKind):∀ (a i:SI) {v:SI},mkSel G k a i=.inl v→v.den E=k.wrap (a.cells E (i.den E)):=by
 intro a
 have other:∀ {k:IntKind} {a i v:SI},(Sum.inl (SI.sel k a i):SI ⊕ SB)=.inl v→v.den E=k.wrap (a.cells E (i.den E)):=fun h=>by
  simp at h; subst h; rfl
 induction a generalizing k with
 | rmap l a o iha =>
  intro i v h
  simp only[mkSel] at h
  split at h
  ·rename_i u hu
   simp at h; subst h
   rw[mkWrap_den hG,iha l _ hu,mkAdd_den]
   rfl
  ·simp at h
 | con c=>intro i v h; simp [mkSel] at h; subst h; rw[mkWrap_den hG]; rfl
 | upd a j x iha _ _ =>
  intro i v h
  simp only[mkSel] at h
  split at h
  ·rename_i hk
   have:=SB.know_ok hG hk
   rw[mkEql_den hG] at this
   simp at h; subst h
   rw[mkWrap_den hG]
   simp only[SI.cells]
   rw[if_pos (by simpa using this)]
  ·rename_i hk
   have:=SB.know_ok hG hk
   rw[mkEql_den hG] at this
   rw[iha k i h]
   simp only[SI.cells]
   rw[if_neg (by simpa using this)]
  ·simp at h
 | app a n b o iha _ ihb _ =>
  intro i v h
  simp only[mkSel] at h
  split at h
  ·rename_i hk
   have:=SB.know_ok hG hk
   rw[mkLss_den hG] at this
   rw[iha k i h]
   simp only[SI.cells]
   rw[if_pos (by simpa using this)]
  ·rename_i hk
   have:=SB.know_ok hG hk
   rw[mkLss_den hG] at this
   rw[ihb k _ h,mkAdd_den,mkSub_den]
   simp only[SI.cells]
   rw[if_neg (by simpa using this)]
  ·simp at h
 | _=>intro i v h; exact other h
end Go.Ev
