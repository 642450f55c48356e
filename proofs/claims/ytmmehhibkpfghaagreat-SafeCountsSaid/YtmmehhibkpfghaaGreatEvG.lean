/- Ev, part G: numbers, comparisons, slices. -/
import Derived.Test.YtmmehhibkpfghaaGreatEvF
import Derived.Test.YtmmehhibkpfghaaGreatEv9
set_option linter.unusedVariables false
namespace Go.Ev
variable {P:Program} {E:Env} {G:Ctx} {H:AHeap} {w:World}
theorem VRel.int_inv {k:IntKind}{n:SI}{v:Value}(h:VRel E (.int k n) v):v=.int k (n.den E):=by simpa only[VRel] using h
theorem VRel.int_mk (k:IntKind) {n:SI}{x:Int}(h:n.den E=x):VRel E (.int k n) (.int k x):=by simp only[VRel]; rw[h]
theorem VRel.bool_mk {b:SB}{t:Bool}(h:b.den E=t):VRel E (.bool b) (.bool t):=by simp only[VRel]; rw[h]
theorem litK_den (hG:G.Ok E) (b:SI):(litK G b).den E=b.den E:=by
 unfold litK
 split
 ·rfl
 ·split
  ·rename_i q hq
   have:=SI.rangeT_ok hG hq
   split
   ·simp only[SI.den]; omega
   ·rfl
  ·rfl
theorem arith_V (hG:G.Ok E) {o:BinOp}{k:IntKind}{a b:SI}(t:TypeId) :
  OutV P E H w (arith G o k a b) (binOp o t (.int k (a.den E)) (.int k (b.den E))):=by
 cases o
 case add=>exact⟨_,VRel.int_mk k (by rw[wrapK_den hG,mkAdd_den]),by simp [binOp,Op.intArith]⟩
 case sub=>exact⟨_,VRel.int_mk k (by rw[wrapK_den hG,mkSub_den]),by simp [binOp,Op.intArith]⟩
 case mul=>exact⟨_,VRel.int_mk k (by rw[wrapK_den hG,mkMul_den,litK_den hG,litK_den hG]),by simp [binOp,Op.intArith]⟩
 case quo =>
  refine withB_V hG (fun _=>trivial) (fun hb=>?_)
  rw[mkEql_den hG] at hb
  have h0:¬ b.den E=0:=by simpa [SI.den] using hb
  refine⟨.int k (k.wrap ((a.den E).tdiv (b.den E))),VRel.int_mk k ?_,by simp [binOp,Op.intDiv,h0]⟩
  split
  ·simp [SI.den]
  ·rw[mkWrap_den hG]; simp [SI.den]
 case rem =>
  refine withB_V hG (fun _=>trivial) (fun hb=>?_)
  rw[mkEql_den hG] at hb
  have h0:¬ b.den E=0:=by simpa [SI.den] using hb
  refine⟨.int k ((a.den E).tmod (b.den E)),VRel.int_mk k ?_,by simp [binOp,Op.intDiv,h0]⟩
  rw[← litK_den hG a,← litK_den hG b]
  split
  ·rename_i e1 e2; rw[e1,e2]; simp [SI.den]
  ·simp only[SI.den,litK_den hG]
 case and=>exact⟨_,VRel.int_mk k (by rw[bitsG_den hG]),by simp [binOp,Op.intBits,bitsDen]⟩
 case or=>exact⟨_,VRel.int_mk k (by rw[bitsG_den hG]),by simp [binOp,Op.intBits,bitsDen]⟩
 case xor=>exact⟨_,VRel.int_mk k (by rw[bitsG_den hG]),by simp [binOp,Op.intBits,bitsDen]⟩
 case andNot=>exact⟨_,VRel.int_mk k (by rw[bitsG_den hG]),by simp [binOp,Op.intBits,bitsDen]⟩
 case eql=>exact⟨_,VRel.bool_mk (mkEql_den hG a b),by simp [binOp,Op.intCmp]⟩
 case neq=>exact⟨_,VRel.bool_mk (by rw[mkNot_den,mkEql_den hG]),by simp [binOp,Op.intCmp]; rfl⟩
 case lss=>exact⟨_,VRel.bool_mk (mkLss_den hG a b),by simp [binOp,Op.intCmp]⟩
 case gtr=>exact⟨_,VRel.bool_mk (mkLss_den hG b a),by simp [binOp,Op.intCmp]⟩
 case leq=>exact⟨_,VRel.bool_mk (by rw[mkNot_den,mkLss_den hG]),by simp only[binOp,Op.intCmp]; simp [← Int.not_lt]⟩
 case geq=>exact⟨_,VRel.bool_mk (by rw[mkNot_den,mkLss_den hG]),by simp only[binOp,Op.intCmp]; simp [← Int.not_lt]⟩
 case shl=>trivial
 case shr=>trivial
theorem shift_V (hG:G.Ok E) {o:BinOp}(ho:o=.shl∨o=.shr) {k k':IntKind}{a b:SI}(t:TypeId) :
  OutV P E H w (shiftA G o k a b) (binOp o t (.int k (a.den E)) (.int k' (b.den E))):=by
 unfold shiftA
 split
 ·rename_i y
  have hy:¬ ((y:Nat):Int)<0:=by omega
  rcases ho with rfl | rfl
  ·refine⟨.int k (k.wrap (a.den E*2 ^ (min y k.bits))),VRel.int_mk k ?_,by simp [binOp,Op.shift,SI.den,hy]⟩
   split <;> simp [SI.den,shlG_den hG]
  ·refine⟨.int k ((a.den E).fdiv (2 ^ (min y k.bits))),VRel.int_mk k ?_,by simp [binOp,Op.shift,SI.den,hy]⟩
   split <;> simp [SI.den,shrG_den hG]
 ·trivial
theorem pin_ok (hG:G.Ok E) {n:SI}{d:Int}:∀ {f:Nat}{c:Int},pin G n f c=some (.inl d)→n.den E=d
 | 0,_,h=>by simp [pin] at h
 | f+1,c,h=>by
  unfold pin at h
  split at h
  ·rename_i hk
   simp at h; subst h
   have:=SB.know_ok hG hk
   rw[mkEql_den hG] at this
   simpa [SI.den] using this
  ·exact pin_ok hG h
  ·simp at h
theorem pinned_V (hG:G.Ok E) {n:SI}{k:SI→AOut}{s:Sem Value}(h:∀ c,n.den E=c→OutV P E H w (k (.lit c)) s):OutV P E H w (pinned G n k) s:=by
 unfold pinned
 split
 ·exact h _ rfl
 ·split
  ·split
   ·split
    ·rename_i c hc; exact h c (pin_ok hG hc)
    ·trivial
    ·trivial
   ·trivial
  ·trivial
theorem unop_V (hG:G.Ok E) {o:UnOp}{x:AV}{v:Value}(hx:VRel E x v):OutV P E H w (unOpA G o x) (Op.unary o v):=by
 cases o <;> cases x <;> simp only[unOpA] <;> (try trivial)
 ·rename_i k n
  simp only[VRel] at hx; subst hx
  exact⟨_,VRel.int_mk k (by rw[mkWrap_den hG,mkSub_den]),by simp [Op.unary,Op.intArith,SI.den]⟩
 ·rename_i k n
  simp only[VRel] at hx; subst hx
  exact⟨_,VRel.int_mk k (by rw[mkBits_den]),by simp [Op.unary,Op.intBits,bitsDen,SI.den]⟩
 ·rename_i b
  simp only[VRel] at hx; subst hx
  exact⟨_,VRel.bool_mk (mkNot_den b),by simp [Op.unary]⟩
theorem frozen_cells {id:Nat}{b:AB}{o:Obj}{a i:Nat}(hb:BRel E id b o) (hc:b.isCells=true) (ho:w.heap[a]?=some o):w.frozen? ⟨a,i,none⟩=false:=by
 cases b <;> simp [AB.isCells] at hc
 ·obtain⟨vs,_,rfl⟩:=hb; simp [World.frozen?,ho]
 ·obtain⟨vs,rfl,_⟩:=hb; simp [World.frozen?,ho]
 ·obtain⟨vs,r,_,rfl,_⟩:=hb; simp [World.frozen?,ho]
theorem shape_cells {id:Nat}{b:AB}{o:Obj}{a:Nat}(hb:BRel E id b o) (hc:b.isCells=true) (ho:w.heap[a]?=some o):∃ s,w.shape? a=some s:=by
 cases b <;> simp [AB.isCells] at hc
 ·obtain⟨vs,_,rfl⟩:=hb; exact⟨_,by simp [World.shape?,ho]; rfl⟩
 ·obtain⟨vs,rfl,_⟩:=hb; exact⟨_,by simp [World.shape?,ho]; rfl⟩
 ·obtain⟨vs,r,_,rfl,_⟩:=hb; exact⟨_,by simp [World.shape?,ho]; rfl⟩
theorem AB.isCells_rw {b:AB}(h:b.isCells=true):b.rw=true:=by cases b <;> first | rfl | simp [AB.isCells] at h
theorem sameAddr_ok (hH:HRel E H w) {i j a a' m n:Nat}{p q:AB}(hi:H.get i=some p) (hj:H.get j=some q) (hp:p.isCells=true) (hq:q.isCells=true)
  (hne:i≠j) (ha:E.loc i=some a) (ha':E.loc j=some a'):(sameAddr ⟨a,m,none⟩ ⟨a',n,none⟩).run P w=.ok false w:=by
 obtain⟨x,o,h1,h2,h3⟩:=hH.blk i p hi
 obtain⟨y,o',k1,k2,k3⟩:=hH.blk j q hj
 have e1:x=a:=by rw[ha] at h1; simpa using h1.symm
 have e2:y=a':=by rw[ha'] at k1; simpa using k1.symm
 subst e1; subst e2
 have hb:x≠y:=fun e=>hne (hH.inj i j p q x hi hj (.inl (AB.isCells_rw hp)) h1 (by rw[e]; exact k1))
 obtain⟨s,hs⟩:=shape_cells (w:=w) h3 hp h2
 obtain⟨s',hs'⟩:=shape_cells (w:=w) k3 hq k2
 have f1:∀ i,w.frozen? ⟨x,i,none⟩=false:=fun i=>frozen_cells h3 hp h2
 have f2:∀ i,w.frozen? ⟨y,i,none⟩=false:=fun i=>frozen_cells k3 hq k2
 have hb':(x == y)=false:=by simpa using hb
 simp only[sameAddr,hb',Bool.false_eq_true,if_false,noView,viewAt,mayBeOne,stringish]
 simp [f1,f2,hs,hs']
theorem eqlA_ok (hH:HRel E H w) {t:TypeId}{c:Bool}{x y:AV}{u v:Value}{s:SB}(hx:VRel E x u) (hy:VRel E y v) (h:eqlA P G H t c x y=some s) :
  (Op.equal t u v).run P w=.ok (s.den E) w∧((u=.nilIface∧v=.nilIface)→c=true)∧(∀ cs ds,u=.agg cs→v≠.agg ds)∧(∀ k n k' n',u=.int k n→v≠.int k' n') ∧
   (∀ k n k' n',u=.float k n→v≠.float k' n')∧(∀ k n m k' n' m',u=.complex k n m→v≠.complex k' n' m')∧(∀ a b,u=.string a→v≠.string b):=by
 unfold eqlA at h
 have hd:∀ {s:Bool},(∀ d,(Op.equalIn (d+1) t u v).run P w=.ok s w)→(Op.equal t u v).run P w=.ok s w:=fun k=>k 9999
 split at h <;> try (simp at h; done)
 case h_1 a b hu =>
  simp at h; subst h
  simp only[VRel] at hx hy; subst hx; subst hy
  refine⟨hd (fun d=>by simp [Op.equalIn,underlying_ok hu,mkIff_den]),?_⟩; simp
 case h_2 e hu =>
  simp at h; subst h
  simp only[VRel] at hx hy; subst hx; subst hy
  refine⟨hd (fun d=>by simp [Op.equalIn,underlying_ok hu,SB.den]),?_⟩; simp
 case h_3 e i a hu =>
  simp at h; subst h
  simp only[VRel] at hx hy; subst hx; obtain⟨_,_,_,rfl⟩:=hy
  refine⟨hd (fun d=>by simp [Op.equalIn,underlying_ok hu,SB.den]),?_⟩; simp
 case h_4 e i a hu =>
  simp at h; subst h
  simp only[VRel] at hx hy; subst hy; obtain⟨_,_,_,rfl⟩:=hx
  refine⟨hd (fun d=>by simp [Op.equalIn,underlying_ok hu,SB.den]),?_⟩; simp
 case h_5 e i a j b hu =>
  simp only[VRel] at hx hy
  obtain⟨p,hp,hx0,rfl⟩:=hx
  obtain⟨q,hq,hy0,rfl⟩:=hy
  split at h
  ·rename_i n hn
   refine⟨hd (fun d=>?_),by simp⟩
   have key:(sameAddr ⟨p,(a.den E).toNat,none⟩ ⟨q,(b.den E).toNat,none⟩).run P w=.ok (s.den E) w:=by
    split at h
    ·rename_i hij
     subst hij
     rw[hp] at hq; simp at hq; subst hq
     split at h
     ·rename_i m1 n1
      simp at h; subst h
      by_cases e:m1=n1
      ·subst e; simp [sameAddr,SB.den,SI.den]
      ·have e':(m1 == n1)=false:=by simpa using e
       simp [sameAddr,SB.den,SI.den,e,e']
     ·simp at h
    ·rename_i hij
     split at h
     ·rename_i p1 q1 hp1 hq1
      split at h
      ·rename_i hc
       simp at hc
       simp at h; subst h
       simpa [SB.den] using sameAddr_ok (P:=P) hH hp1 hq1 hc.1 hc.2 hij hp hq
      ·simp at h
     ·simp at h
   simp [Op.equalIn,underlying_ok hu,sizeB_ok hn,key]
  ·simp at h
 case h_6 e hu =>
  split at h
  ·rename_i hc
   simp at h; subst h
   simp only[VRel] at hx hy; subst hx; subst hy
   refine⟨hd (fun d=>by simp [Op.equalIn,underlying_ok hu,SB.den]),fun _=>hc,?_⟩; simp
  ·simp at h
 all_goals
  rename_i hu
  simp at h; subst h
  simp only[VRel] at hx hy
  first
   | (subst hx; subst hy)
   | (subst hx; obtain⟨_,_,rfl⟩:=hy)
   | (subst hx; obtain⟨_,_,_,rfl⟩:=hy)
   | (subst hx; obtain⟨_,_,_,_,_,rfl⟩:=hy)
   | (subst hy; obtain⟨_,_,rfl⟩:=hx)
   | (subst hy; obtain⟨_,_,_,rfl⟩:=hx)
   | (subst hy; obtain⟨_,_,_,_,rfl⟩:=hx)
   | (subst hy; obtain⟨_,_,_,_,_,rfl⟩:=hx)
  refine⟨hd (fun d=>by simp [Op.equalIn,underlying_ok hu,SB.den]),?_⟩
  simp
theorem exclB_ok {s q:SB}(h:exclB s q=true) (hs:s.den E=true):q.den E=false:=by
 unfold exclB at h
 split at h
 ·simp only[Bool.and_eq_true,decide_eq_true_eq] at h
  obtain⟨rfl,h⟩:=h
  simp only[SB.den,SI.den,beq_iff_eq,beq_eq_false_iff_ne,ne_eq] at hs ⊢
  omega
 ·simp at h
theorem combB_ok {s p q r:SB}(h:combB s p q=some r):(s.den E=true→r.den E=p.den E)∧(s.den E=false→r.den E=q.den E):=by
 unfold combB at h
 split at h
 ·rename_i e; subst e; simp at h; subst h; exact⟨fun _=>rfl,fun _=>rfl⟩
 ·split at h
  ·split at h
   ·simp at h; subst h
    exact⟨fun k=>by simp [mkNot_den,SB.den,k],fun k=>by simp [mkNot_den,SB.den,k]⟩
   ·split at h
    ·rename_i hx
     simp at h; subst h
     exact⟨fun k=>by rw[exclB_ok hx k]; rfl,fun _=>rfl⟩
    ·simp at h
  ·split at h
   ·simp at h; subst h
    exact⟨fun k=>by simp [SB.den,k],fun k=>by simp [SB.den,k]⟩
   ·split at h
    ·rename_i hx
     simp at h; subst h
     exact⟨fun k=>by simp [SB.den,exclB_ok hx k],fun _=>rfl⟩
    ·simp at h
   ·simp at h
  ·simp at h
theorem eqlI_ok (hH:HRel E H w) {t:TypeId}{c:Bool}{u v:Value}{y:AV}(hy:VRel E y v):∀ {x:AV}{G:Ctx}{s:SB},G.Ok E→VRel E x u→eqlI P H t c G x y=some s →
  (Op.equal t u v).run P w=.ok (s.den E) w∧((u=.nilIface∧v=.nilIface)→c=true)∧(∀ cs ds,u=.agg cs→v≠.agg ds)∧(∀ k n k' n',u=.int k n→v≠.int k' n') ∧
   (∀ k n k' n',u=.float k n→v≠.float k' n')∧(∀ k n m k' n' m',u=.complex k n m→v≠.complex k' n' m')∧(∀ a b,u=.string a→v≠.string b):=by
 intro x
 induction x using AV.rec (motive_2:=fun _=>True) with
 | nil=>trivial
 | cons _ _ _ _=>trivial
 | ite b x z ihx ihz =>
  intro G s hG hx h
  simp only[VRel] at hx
  simp only[eqlI] at h
  split at h
  ·rename_i hk; exact ihx hG (hx.1 (SB.know_ok hG hk)) h
  ·rename_i hk; exact ihz hG (hx.2 (SB.know_ok hG hk)) h
  ·split at h
   ·rename_i p hp
    split at h
    ·rename_i q hq
     cases hb:b.den E with
     | true =>
      have:=ihx (hG.cons hb) (hx.1 hb) hp
      rw[(combB_ok h).1 hb]; exact this
     | false =>
      have:=ihz (hG.cons hb) (hx.2 hb) hq
      rw[(combB_ok h).2 hb]; exact this
    ·simp at h
   ·simp at h
 | _=>intro G s hG hx h; simp only[eqlI] at h; exact eqlA_ok hH hx hy h
end Go.Ev
