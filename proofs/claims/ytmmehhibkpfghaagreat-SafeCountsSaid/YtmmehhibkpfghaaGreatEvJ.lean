/- Ev, part J: append. -/
import Derived.Test.YtmmehhibkpfghaaGreatEvI
set_option linter.unusedVariables false
namespace Go.Ev
variable {P:Program} {E:Env} {G:Ctx} {H:AHeap} {w:World}
theorem HRel.drawn (h:HRel E H w) (n:Nat):HRel E H { w with drawn:=n }:=⟨h.blkE,h.injE,h.sepS,h.lt,h.fresh⟩
theorem sliceCells_ok (hH:HRel E H w) {size n:Nat}{s:AV}{v:Value}{l:List AV}(hv:VRel E s v) (hn:lenOfA s=some n) (h:sliceCells H size s=some l) :
  ∃ vs,VRelL E l vs∧(∀ w':World,w'.heap=w.heap→(Builtin.firstCells size n v).run P w'=.ok vs.toArray w')∧(Builtin.lenOf v).run P w=.ok n w:=by
 unfold sliceCells at h
 split at h
 ·simp at h; subst h
  simp [lenOfA] at hn; subst hn
  simp only[VRel] at hv; subst hv
  exact⟨[],VRelL.nil,fun w' _=>by simp [Builtin.firstCells],by simp [Builtin.lenOf]⟩
 ·rename_i id off m cap
  simp [lenOfA] at hn; subst hn
  simp only[VRel] at hv
  obtain⟨b,hb,ho,rfl⟩:=hv
  split at h
  ·rename_i ab hab
   obtain⟨a',o,h1,h2,h3⟩:=hH.blk id ab hab
   have e:a'=b:=by rw[hb] at h1; simpa using h1.symm
   subst e
   obtain⟨vs,hvs,hrun⟩:=loadN_obj (P:=P) (H:=H) (a:=a') h3 (m*size) off 0 l (by simpa using h)
   refine⟨vs,hvs,fun w' hw'=>?_,by simp [Builtin.lenOf,SI.den]⟩
   simpa [Builtin.firstCells,SI.den,loadCells] using hrun w' #[] (by rw[hw']; exact h2)
  ·simp at h
 ·rename_i id skip size' m
  simp [lenOfA] at hn; subst hn
  simp only[VRel] at hv
  obtain⟨b,hb,hc,rfl⟩:=hv
  split at h
  ·rename_i hsz
   subst hsz
   split at h
   ·rename_i ab hab
    obtain⟨a',o,h1,h2,h3⟩:=hH.blk id ab hab
    have e:a'=b:=by rw[hb] at h1; simpa using h1.symm
    subst e
    obtain⟨vs,hvs,hrun⟩:=loadN_obj (P:=P) (H:=H) (a:=a') h3 (m*size') (skip*size') 0 l (by simpa using h)
    refine⟨vs,hvs,fun w' hw'=>?_,by simp [Builtin.lenOf]⟩
    simpa [Builtin.firstCells,loadCells] using hrun w' #[] (by rw[hw']; exact h2)
   ·simp at h
  ·simp at h
 ·simp at h; subst h
  simp [lenOfA] at hn; subst hn
  simp only[VRel] at hv
  obtain⟨a,c,_,rfl⟩:=hv
  exact⟨[],VRelL.nil,fun w' _=>by simp [Builtin.firstCells,loadCells,loadCellsFrom],by simp [Builtin.lenOf]⟩
 ·simp at h
theorem loadN_open {cs:List AV}{e:TypeId}{sz:Nat}:∀ (k i:Nat),i+k=cs.length→loadN H (.opn cs e sz) i k=some (cs.drop i):=by
 intro k
 induction k with
 | zero=>intro i h; simp only[loadN]; rw[List.drop_eq_nil_of_le (by omega)]
 | succ k ih =>
  intro i h
  have hi:i<cs.length:=by omega
  simp only[loadN,AB.cell,nthA_eq,List.getElem?_eq_getElem hi,ih (i+1) (by omega)]
  rw[List.drop_eq_getElem_cons hi]
theorem storeSpare {b:Nat}{e:TypeId}{off:Nat}:∀ (vs A R:List Value) (w:World) (i:Nat),off+i=A.length→w.heap[b]?=some (.cells (A++R).toArray e (0,0))→vs.length≤R.length →
  (∀ v ∈ vs,v.oneCell'=true)→∃ w',(storeCells ⟨b,off,none⟩ vs i).run P w=.ok () w'∧w'.heap[b]?=some (.cells (A++vs++R.drop vs.length).toArray e (0,0)) ∧
   w'.heap.size=w.heap.size∧(∀ k,k≠b→w'.heap[k]?=w.heap[k]?)∧w'.os=w.os∧w'.tape=w.tape∧w'.output=w.output
 | [],A,R,w,i,_,hb,_,_=>⟨w,by simp [storeCells],by simpa using hb,rfl,fun _ _=>rfl,rfl,rfl,rfl⟩
 | v::vs,A,R,w,i,hi,hb,hl,h1=>by
  cases R with
  | nil=>simp at hl
  | cons r R =>
   have hc:w.cell? ⟨b,off+i,none⟩=some r:=by
    simp [World.cell?,hb,hi]
   have hf:w.frozen? ⟨b,off+i,none⟩=false:=by simp [World.frozen?,hb]
   have hb':(w.setCell ⟨b,off+i,none⟩ v).heap[b]?=some (.cells ((A++[v])++R).toArray e (0,0)):=by
    simp [World.setCell,Array.getElem?_modify,hb,hi]
   obtain⟨w',hrun,q1,q2,q3,q4,q5,q6⟩:=storeSpare (off:=off) vs (A++[v]) R (w.setCell ⟨b,off+i,none⟩ v) (i+1) (by simp; omega) hb' (by simpa using hl) (fun u hu=>h1 u (by simp [hu]))
   refine⟨w',?_,?_,?_,?_,q4,q5,q6⟩
   ·simp only[storeCells,add_none,Sem.run_bind,run_store_ok (h1 v (by simp)) hc hf,Result.andThen_ok,hrun]
   ·rw[q1]; simp
   ·rw[q2]; simp [World.setCell]
   ·intro k hk
    rw[q3 k hk]
    simp only[World.setCell,Array.getElem?_modify]
    rw[if_neg (fun e=>hk e.symm)]
theorem growBy_le (newLen:Nat):∀ (r c:Nat),c≤newLen+newLen / 4+192→Builtin.growBy newLen r c≤newLen+newLen / 4+192:=by
 intro r
 induction r with
 | zero=>intro c h; exact h
 | succ r ih =>
  intro c h
  simp only[Builtin.growBy]
  split
  ·exact h
  ·exact ih _ (by omega)
theorem nextslicecap_le {n c:Nat}(h:c<n):Builtin.nextslicecap n c≤2*n+192:=by
 unfold Builtin.nextslicecap
 split
 ·omega
 ·split
  ·omega
  ·have:=growBy_le n 4 c (by omega); omega
theorem all_one:∀ {l:List AV}{vs:List Value},VRelL E l vs→l.all AV.one=true→∀ v ∈ vs,v.oneCell'=true
 | [],vs,h,_=>by simp only[VRelL] at h; subst h; simp
 | x::xs,vs,h,k=>by
  simp only[VRelL] at h
  obtain⟨y,ys,hy,hys,rfl⟩:=h
  simp only[List.all_cons,Bool.and_eq_true] at k
  intro v hv
  rcases List.mem_cons.1 hv with rfl | hv
  ·exact AV.one_ok k.1 hy
  ·exact all_one hys k.2 v hv
theorem append_fits {argTypes:Array TypeId}{st xt e:TypeId}{ty:TypeId}{base:Option Addr}{n c m size:Nat}{x:Value}{nv:Array Value}{w':World}
  (h1:argTypes[0]?=some st) (h2:argTypes[1]?=some xt) (u1:P.underlying st=some (.slice e)) {e2:TypeId} (u2:P.underlying xt=some (.slice e2)) (hs:sizeB P e=some size)
  (hm:(Builtin.lenOf x).run P w=.ok m w) (hx:(Builtin.firstCells size m x).run P w=.ok nv w) (hle:n+m≤c)
  (hst:∀ a,base=some a→(storeCells (a.add (n*size)) nv.toList).run P w=.ok () w') (hnone:base=none→w'=w) :
  (Builtin.append_ argTypes ty #[.slice base n c,x]).run P w=.ok (.slice base (n+m) c) w':=by
 cases base with
 | none=>have:=hnone rfl; subst this; simp [Builtin.append_,h1,h2,underlying_ok u1,underlying_ok u2,sizeB_ok hs,hm,hx,hle]
 | some a=>simp [Builtin.append_,h1,h2,underlying_ok u1,underlying_ok u2,sizeB_ok hs,hm,hx,hle,hst a rfl]
theorem append_grows {argTypes:Array TypeId}{st xt e:TypeId}{ty:TypeId}{base:Option Addr}{n c m:Nat}{x:Value}{ov nv:Array Value}{i:TypeInfo}{zv:Value}
  (h1:argTypes[0]?=some st) (h2:argTypes[1]?=some xt) (u1:P.underlying st=some (.slice e)) {e2:TypeId} (u2:P.underlying xt=some (.slice e2)) (hi:P.info? e=some i)
  (hz:i.zero=some zv) (hb:i.bytes≠0) (hb2:i.bytes≤4096) (hbig:n+m≤1048576)
  (hm:(Builtin.lenOf x).run P w=.ok m w) (hx:(Builtin.firstCells i.size m x).run P w.drew=.ok nv w.drew)
  (ho:(Builtin.firstCells i.size n (.slice base n c)).run P w.drew=.ok ov w.drew) (hlt:c<n+m) :
  ∃ c' rest,n+m≤c'∧rest.size=(c'-(n+m))*zv.cells.size∧(Builtin.append_ argTypes ty #[.slice base n c,x]).run P w =
   .ok (.slice (some ⟨w.heap.size,0,none⟩) (n+m) c') (w.drew.alloc (.cells (ov++nv++rest) e)):=by
 have hinfo:∀ w':World,(typeInfo e).run P w'=.ok i w':=fun w'=>by simp [typeInfo,hi]
 have hs:∀ w':World,(sizeOf e).run P w'=.ok i.size w':=fun w'=>by simp [sizeOf,hinfo]
 have hzr:∀ w':World,(zeroValue e).run P w'=.ok zv w':=fun w'=>by simp [zeroValue,hinfo,hz]
 have hnle:¬ n+m≤c:=by omega
 have hg1:¬ (((n+m:Nat):Int) > IntKind.i64.max∧(False∨i.bytes=0)):=by
  rintro ⟨_,h | h⟩
  ·exact h
  ·exact hb h
 have hcap:=nextslicecap_le hlt
 have hg2:¬ (Builtin.nextslicecap (n+m) c*i.bytes > 2 ^ 48):=by
  have:Builtin.nextslicecap (n+m) c*i.bytes≤(2*1048576+192)*4096:=Nat.mul_le_mul (by omega) hb2
  omega
 have hforced:(Question.appendCap (n+m) c e).forced=false:=rfl
 refine⟨(Question.appendCap (n+m) c e).cut (w.tape w.drawn (.appendCap (n+m) c e)),Builtin.zeroCells zv.cells ((Question.appendCap (n+m) c e).cut (w.tape w.drawn (.appendCap (n+m) c e))-(n+m)),?_,?_,?_⟩
 ·simp [Question.cut]
 ·simp [Builtin.zeroCells]
 ·have hnb:¬ (281474976710656<Builtin.nextslicecap (n+m) c*i.bytes):=by simpa using hg2
  simp only[Builtin.append_,h1,h2,List.getElem?_toArray,List.getElem?_cons_zero,List.getElem?_cons_succ,Sem.run_bind,underlying_ok u1,underlying_ok u2,Result.andThen_ok,hs,Sem.run_pure]
  simp [hm,hnle,hb,hnb,hforced,hx,ho,hzr,hinfo,newRow]
end Go.Ev
