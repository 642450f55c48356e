/- Ev, part L: calls, and every operation. -/
import Derived.Test.YtmmehhibkpfghaaGreatEvK
import Derived.KernelRfl
set_option linter.unusedVariables false
namespace Go.Ev
variable {P:Program} {E:Env} {G:Ctx} {H:AHeap} {w:World}
theorem chanGet_ok (hH:HRel E H w) (hG:G.Ok E) {id a cap:Nat}{buf:List AV}(ha:E.loc id=some a) (h:chanGet G H id=some (.inl (cap,buf))) :
  ∃ b us s r,H.get id=some b∧b.rw=true∧VRelL E buf us∧w.heap[a]?=some (.chan cap us.toArray false s r false):=by
 unfold chanGet at h
 split at h
 ·rename_i c l hget
  simp at h; obtain⟨rfl,rfl⟩:=h
  obtain⟨a',ob,h1,hob,us,s,r,hus,rfl⟩:=hH.blk id _ hget
  have e:a'=a:=by rw[ha] at h1; simpa using h1.symm
  subst e
  exact⟨_,us,s,r,hget,rfl,hus,hob⟩
 ·rename_i t v hget
  obtain⟨a',ob,h1,hob,u,s,r,hu,rfl⟩:=hH.blk id _ hget
  have e:a'=a:=by rw[ha] at h1; simpa using h1.symm
  subst e
  split at h
  ·rename_i hk
   simp at h; obtain⟨rfl,rfl⟩:=h
   rw[SB.know_ok hG hk] at hob
   exact⟨_,[u],s,r,hget,rfl,VRelL.cons (hu (SB.know_ok hG hk)) VRelL.nil,hob⟩
  ·rename_i hk
   simp at h; obtain⟨rfl,rfl⟩:=h
   rw[SB.know_ok hG hk] at hob
   exact⟨_,[],s,r,hget,rfl,VRelL.nil,by simpa using hob⟩
  ·simp at h
 ·simp at h
theorem len_V (hH:HRel E H w) (hG:G.Ok E) {argTypes:Array TypeId}{t ty:TypeId}{x:AV}{v:Value}(ht:argTypes[0]?=some t) (hx:VRel E x v) :
  OutV P E H w (lenA P G H t x) (Builtin.len_ argTypes ty #[v]):=by
 unfold lenA
 split
 ·rename_i e hu
  split
  ·rename_i n hn
   obtain⟨base,c,rfl⟩:=lenOfA_inv hx hn
   exact⟨.int .i64 n,VRel.int_mk _ rfl,by simp [Builtin.len_,ht,underlying_ok hu,goInt]⟩
  ·split
   ·rename_i id off n cap _
    simp only[VRel] at hx
    obtain⟨b,hb,_,rfl⟩:=hx
    refine withB_V hG (fun _=>trivial) (fun h0=>?_)
    rw[mkLss_den hG] at h0
    have h0:=Int.not_lt.1 (of_decide_eq_false h0)
    simp only[SI.den] at h0
    exact⟨.int .i64 (n.den E),VRel.int_mk _ rfl,by simp [Builtin.len_,ht,underlying_ok hu,goInt]; omega⟩
   ·rename_i id size n _
    simp only[VRel] at hx
    obtain⟨b,hb,h0,_,rfl⟩:=hx
    exact⟨.int .i64 (n.den E),VRel.int_mk _ rfl,by simp [Builtin.len_,ht,underlying_ok hu,goInt]; omega⟩
   ·split
    ·rename_i n hn
     refine withB_V hG (fun _=>trivial) (fun h0=>?_)
     rw[mkLss_den hG] at h0
     have h0:=Int.not_lt.1 (of_decide_eq_false h0)
     simp only[SI.den] at h0
     obtain⟨b,c,rfl⟩:=lenIte_inv hn hx h0
     exact⟨.int .i64 (n.den E),VRel.int_mk _ rfl,by simp [Builtin.len_,ht,underlying_ok hu,goInt]; omega⟩
    ·trivial
 ·rename_i n e hu
  exact⟨.int .i64 n,VRel.int_mk _ rfl,by simp [Builtin.len_,ht,underlying_ok hu,goInt]⟩
 ·rename_i d e id hu
  simp only[VRel] at hx
  obtain⟨b,hb,rfl⟩:=hx
  split
  ·rename_i cap buf hget
   obtain⟨_,us,s,r,_,_,hus,hob⟩:=chanGet_ok hH hG hb hget
   exact⟨.int .i64 buf.length,VRel.int_mk _ rfl,by simp [Builtin.len_,ht,underlying_ok hu,goInt,getObj,Sem.run,hob,hus.length]⟩
  ·trivial
  ·trivial
 ·trivial
theorem min_V (hG:G.Ok E) {argTypes:Array TypeId}{ty:TypeId}{l:List AV}{vs:List Value}(hv:VRelL E l vs) :
  OutV P E H w (minA G l) (Builtin.min_ argTypes ty vs.toArray):=by
 unfold minA
 split
 ·rename_i k a k' b
  simp only[VRelL,VRel] at hv
  obtain⟨_,_,rfl,⟨_,_,rfl,rfl,rfl⟩,rfl⟩:=hv
  split
  ·rename_i hk; subst hk
   refine withB_V hG (fun h=>?_) (fun h=>?_)
   ·rw[mkLss_den hG] at h
    have h:=of_decide_eq_true h
    exact⟨_,VRel.int_mk k rfl,by simp [Builtin.min_,Builtin.min2,h]⟩
   ·rw[mkLss_den hG] at h
    have h:=of_decide_eq_false h
    exact⟨_,VRel.int_mk k rfl,by simp [Builtin.min_,Builtin.min2,h]⟩
  ·trivial
 ·trivial
theorem max_V (hG:G.Ok E) {argTypes:Array TypeId}{ty:TypeId}{l:List AV}{vs:List Value}(hv:VRelL E l vs) :
  OutV P E H w (maxA G l) (Builtin.max_ argTypes ty vs.toArray):=by
 unfold maxA
 split
 ·rename_i k a k' b
  simp only[VRelL,VRel] at hv
  obtain⟨_,_,rfl,⟨_,_,rfl,rfl,rfl⟩,rfl⟩:=hv
  split
  ·rename_i hk; subst hk
   refine withB_V hG (fun h=>?_) (fun h=>?_)
   ·rw[mkLss_den hG] at h
    have h:=of_decide_eq_true h
    exact⟨_,VRel.int_mk k rfl,by simp [Builtin.max_,Builtin.max2,h]⟩
   ·rw[mkLss_den hG] at h
    have h:=of_decide_eq_false h
    exact⟨_,VRel.int_mk k rfl,by simp [Builtin.max_,Builtin.max2,h]⟩
  ·trivial
 ·trivial
theorem part_V (hG:G.Ok E) {t:TypeId}{cs:List AV}{vs:List Value}{off:Nat}(hv:VRelL E cs vs):OutV P E H w (partA P G t cs off) (part t vs.toArray off):=by
 unfold partA
 split
 ·rename_i ha
  split
  ·rename_i n hn
   refine⟨.agg ((vs.drop off).take n).toArray,by simp only[VRel]; exact⟨_,(hv.drop off).take n,rfl⟩,?_⟩
   simp [part,isAggB_ok ha,sizeB_ok hn]
  ·trivial
 ·rename_i ha
  split
  ·rename_i v hvv
   obtain⟨u,hu,hr⟩:=hv.get hvv
   exact valA_V hG (by simp [part,isAggB_ok ha,hu]) hr
  ·trivial
 ·trivial
theorem assert_V {x:AV}{v:Value}{xt t:TypeId}{ok:Bool}(hx:VRel E x v):OutV P E H w (typeAssertA P x t ok) (Instr.typeAssert v xt t ok):=by
 unfold typeAssertA
 split
 ·trivial
 ·rename_i d u y hni hu
  simp only[VRel] at hx
  obtain⟨y',hy,rfl⟩:=hx
  split
  ·rename_i e; subst e
   refine⟨if ok then .tuple #[y',.bool true] else y',?_,?_⟩
   ·cases ok
    ·exact hy
    ·simp only[if_true,VRel]
     exact⟨[y',.bool true],VRelL.cons hy (VRelL.cons (VRel.bool_mk rfl) VRelL.nil),rfl⟩
   ·cases d <;> first | (exact(hni _ rfl).elim) | (simp [Instr.typeAssert,underlying_ok hu])
  ·rename_i hne
   split
   ·rename_i hok
    subst hok
    split
    ·rename_i z hz
     obtain⟨zv,hzr,hzrun⟩:=zeroB_ok (E:=E) hz
     refine⟨.tuple #[zv,.bool false],?_,?_⟩
     ·simp only[VRel]
      exact⟨[zv,.bool false],VRelL.cons hzr (VRelL.cons (VRel.bool_mk rfl) VRelL.nil),rfl⟩
     ·cases d <;> first | (exact(hni _ rfl).elim) | (simp [Instr.typeAssert,underlying_ok hu,hne,hzrun])
    ·trivial
   ·trivial
 ·rename_i d hni hu
  simp only[VRel] at hx; subst hx
  split
  ·rename_i hok
   subst hok
   split
   ·rename_i z hz
    obtain⟨zv,hzr,hzrun⟩:=zeroB_ok (E:=E) hz
    refine⟨.tuple #[zv,.bool false],?_,?_⟩
    ·simp only[VRel]
     exact⟨[zv,.bool false],VRelL.cons hzr (VRelL.cons (VRel.bool_mk rfl) VRelL.nil),rfl⟩
    ·cases d <;> first | (exact(hni _ rfl).elim) | (simp [Instr.typeAssert,underlying_ok hu,hzrun])
   ·trivial
  ·trivial
 ·trivial
theorem lookups (n:String) (e:Array Value→Sem Value) (h0:(Extern.allNextRows.lookup n).isNone=true) (h1:(Extern.allGenericRows.lookup n).isNone=true) (h2:(Extern.allTypedRows.lookup n).isNone=true)
  (h3 : Extern.allRows.lookup n = some e) (h4 : (Extern.allNextRows.lookup "").isNone = true) : ∀ fn : Func, fn.name = n → fn.origin = "" → Extern.findNext fn = none ∧ Extern.find fn = some e := by
 intro fn hn ho
 simp only[Option.isNone_iff_eq_none] at h0 h1 h2 h4
 refine⟨?_,?_⟩
 ·simp [Extern.findNext,hn,ho,h0,h4]
 ·simp [Extern.find,hn,h1,h2,h3]
theorem noNext : (Extern.allNextRows.lookup "").isNone = true := by kernel_rfl
open Extern.Atomic in
theorem ext_loadI64 : ∀ fn : Func, fn.name = "sync/atomic.LoadInt64" → fn.origin = "" → Extern.findNext fn = none ∧ Extern.find fn = some (loadT (.int .i64)) :=
 lookups _ _ (by kernel_rfl) (by kernel_rfl) (by kernel_rfl) (by kernel_rfl) noNext
open Extern.Atomic in
theorem ext_addI64 : ∀ fn : Func, fn.name = "sync/atomic.AddInt64" → fn.origin = "" → Extern.findNext fn = none ∧ Extern.find fn = some (update (Op.intArith .add) .i64 true) :=
 lookups _ _ (by kernel_rfl) (by kernel_rfl) (by kernel_rfl) (by kernel_rfl) noNext
open Extern.Atomic in
theorem ext_loadU64 : ∀ fn : Func, fn.name = "sync/atomic.LoadUint64" → fn.origin = "" → Extern.findNext fn = none ∧ Extern.find fn = some (loadT (.int .u64)) :=
 lookups _ _ (by kernel_rfl) (by kernel_rfl) (by kernel_rfl) (by kernel_rfl) noNext
open Extern.Atomic in
theorem ext_addU64 : ∀ fn : Func, fn.name = "sync/atomic.AddUint64" → fn.origin = "" → Extern.findNext fn = none ∧ Extern.find fn = some (update (Op.intArith .add) .u64 true) :=
 lookups _ _ (by kernel_rfl) (by kernel_rfl) (by kernel_rfl) (by kernel_rfl) noNext
open Extern.Atomic in
theorem ext_casU64 : ∀ fn : Func, fn.name = "sync/atomic.CompareAndSwapUint64" → fn.origin = "" → Extern.findNext fn = none ∧ Extern.find fn = some (casT (.int .u64)) :=
 lookups _ _ (by kernel_rfl) (by kernel_rfl) (by kernel_rfl) (by kernel_rfl) noNext
open Extern.Atomic in
theorem ext_loadI32 : ∀ fn : Func, fn.name = "sync/atomic.LoadInt32" → fn.origin = "" → Extern.findNext fn = none ∧ Extern.find fn = some (loadT (.int .i32)) :=
 lookups _ _ (by kernel_rfl) (by kernel_rfl) (by kernel_rfl) (by kernel_rfl) noNext
open Extern.Atomic in
theorem ext_addI32 : ∀ fn : Func, fn.name = "sync/atomic.AddInt32" → fn.origin = "" → Extern.findNext fn = none ∧ Extern.find fn = some (update (Op.intArith .add) .i32 true) :=
 lookups _ _ (by kernel_rfl) (by kernel_rfl) (by kernel_rfl) (by kernel_rfl) noNext
open Extern.Atomic in
theorem ext_casI32 : ∀ fn : Func, fn.name = "sync/atomic.CompareAndSwapInt32" → fn.origin = "" → Extern.findNext fn = none ∧ Extern.find fn = some (casT (.int .i32)) :=
 lookups _ _ (by kernel_rfl) (by kernel_rfl) (by kernel_rfl) (by kernel_rfl) noNext
open Extern.Atomic in
theorem ext_storeU64 : ∀ fn : Func, fn.name = "sync/atomic.StoreUint64" → fn.origin = "" → Extern.findNext fn = none ∧ Extern.find fn = some storeT :=
 lookups _ _ (by kernel_rfl) (by kernel_rfl) (by kernel_rfl) (by kernel_rfl) noNext
theorem ext_disable : ∀ fn : Func, fn.name = "internal/race.Disable" → fn.origin = "" → Extern.findNext fn = none ∧ Extern.find fn = some (fun _ => do mark .disable; pure Extern.Race.none_) :=
 lookups _ _ (by kernel_rfl) (by kernel_rfl) (by kernel_rfl) (by kernel_rfl) noNext
theorem ext_enable : ∀ fn : Func, fn.name = "internal/race.Enable" → fn.origin = "" → Extern.findNext fn = none ∧ Extern.find fn = some (fun _ => do mark .enable; pure Extern.Race.none_) :=
 lookups _ _ (by kernel_rfl) (by kernel_rfl) (by kernel_rfl) (by kernel_rfl) noNext
theorem ext_acquire : ∀ fn : Func, fn.name = "internal/race.Acquire" → fn.origin = "" → Extern.findNext fn = none ∧ Extern.find fn = some (Extern.Race.marked .acquire) :=
 lookups _ _ (by kernel_rfl) (by kernel_rfl) (by kernel_rfl) (by kernel_rfl) noNext
theorem ext_release : ∀ fn : Func, fn.name = "internal/race.Release" → fn.origin = "" → Extern.findNext fn = none ∧ Extern.find fn = some (Extern.Race.marked .release) :=
 lookups _ _ (by kernel_rfl) (by kernel_rfl) (by kernel_rfl) (by kernel_rfl) noNext
theorem ext_releaseMerge : ∀ fn : Func, fn.name = "internal/race.ReleaseMerge" → fn.origin = "" → Extern.findNext fn = none ∧ Extern.find fn = some (Extern.Race.marked .releaseMerge) :=
 lookups _ _ (by kernel_rfl) (by kernel_rfl) (by kernel_rfl) (by kernel_rfl) noNext
def ExtOp.sem:ExtOp→Array Value→Sem Value
 | .able=>fun _=>do mark .enable; pure Extern.Race.none_
 | .unable=>fun _=>do mark .disable; pure Extern.Race.none_
 | .acquire=>Extern.Race.marked .acquire
 | .release=>Extern.Race.marked .release
 | .releaseMerge=>Extern.Race.marked .releaseMerge
 | .loadInt k=>Extern.Atomic.loadT (.int k)
 | .addInt k=>Extern.Atomic.update (Op.intArith .add) k true
 | .casInt k=>Extern.Atomic.casT (.int k)
 | .storeInt=>Extern.Atomic.storeT
theorem ite_some {α:Type}{c:Prop} [Decidable c] {x e:α}{r:Option α}(h:(if c then some x else r)=some e):(c∧x=e)∨r=some e:=by
 by_cases hc:c
 ·rw[if_pos hc] at h; exact .inl ⟨hc,Option.some.inj h⟩
 ·rw[if_neg hc] at h; exact .inr h
theorem extA_ok {fn : Func} {e : ExtOp} (h : extA fn.name = some e) (ho : fn.origin = "") : Extern.findNext fn = none ∧ Extern.find fn = some e.sem := by
 unfold extA at h
 rcases ite_some h with ⟨hn,rfl⟩ | h
 ·exact ext_loadI64 fn hn ho
 rcases ite_some h with ⟨hn,rfl⟩ | h
 ·exact ext_addI64 fn hn ho
 rcases ite_some h with ⟨hn,rfl⟩ | h
 ·exact ext_loadU64 fn hn ho
 rcases ite_some h with ⟨hn,rfl⟩ | h
 ·exact ext_addU64 fn hn ho
 rcases ite_some h with ⟨hn,rfl⟩ | h
 ·exact ext_casU64 fn hn ho
 rcases ite_some h with ⟨hn,rfl⟩ | h
 ·exact ext_loadI32 fn hn ho
 rcases ite_some h with ⟨hn,rfl⟩ | h
 ·exact ext_addI32 fn hn ho
 rcases ite_some h with ⟨hn,rfl⟩ | h
 ·exact ext_casI32 fn hn ho
 rcases ite_some h with ⟨hn,rfl⟩ | h
 ·exact ext_storeU64 fn hn ho
 rcases ite_some h with ⟨hn,rfl⟩ | h
 ·exact ext_disable fn hn ho
 rcases ite_some h with ⟨hn,rfl⟩ | h
 ·exact ext_enable fn hn ho
 rcases ite_some h with ⟨hn,rfl⟩ | h
 ·exact ext_acquire fn hn ho
 rcases ite_some h with ⟨hn,rfl⟩ | h
 ·exact ext_release fn hn ho
 rcases ite_some h with ⟨hn,rfl⟩ | h
 ·exact ext_releaseMerge fn hn ho
 cases h
theorem set_cell (hH:HRel E H w) {id off a:Nat}{b b':AB}{v:AV}{u:Value}(hb:H.get id=some b) (ha:E.loc id=some a) (hb':b.setCell off v=some b') (hv:VRel E v u) :
  EffOK E H w E (H.upd id b') (w.setCell ⟨a,off,none⟩ u):=by
 obtain⟨a',o,h1,h2,h3⟩:=hH.blk id b hb
 have e':a'=a:=by rw[ha] at h1; simpa using h1.symm
 subst e'
 have hrw:=AB.setCell_rw hb'
 obtain⟨_,_,o',ho',hbr⟩:=AB.setCell_ok h3 h2 hb' hv
 exact⟨Env.le.refl E,hH.upd hb hrw.1 h1 (by simp [World.setCell]) ⟨o',ho',hbr⟩ (fun j hj=>by simp only[World.setCell,Array.getElem?_modify]; rw[if_neg (fun e=>hj e.symm)]),
  Kept.setCell w _ ⟨id,b,.inl hb,hrw.1,h1⟩,fun x hx=>.inl (Live.upd hH hb hrw.1 hx),rfl⟩
theorem cellX_inr {G:Ctx}{H:AHeap}{id:Nat}{off:SI}{o:AOut}(h:cellX G H id off=.inr o):(∃ s,o=.fork s)∨∃ s,o=.fail s:=by
 unfold cellX at h
 split at h
 ·split at h
  ·exact cellRow_inr h
  ·simp at h; subst h; exact .inr ⟨_,rfl⟩
 ·split at h
  ·split at h
   ·simp at h
   ·simp at h; subst h; exact .inr ⟨_,rfl⟩
  ·simp at h; subst h; exact .inr ⟨_,rfl⟩
 ·simp at h; subst h; exact .inr ⟨_,rfl⟩
theorem setX_inr {G:Ctx}{H:AHeap}{id:Nat}{off:SI}{v:AV}{o:AOut}(h:setX G H id off v=.inr o):(∃ s,o=.fork s)∨∃ s,o=.fail s:=by
 unfold setX at h
 split at h
 ·split at h
  ·split at h
   ·simp at h
   ·rename_i ho; simp at h; subst h; exact setRow_inr ho
  ·simp at h; subst h; exact .inr ⟨_,rfl⟩
 ·split at h
  ·split at h
   ·simp at h
   ·simp at h; subst h; exact .inr ⟨_,rfl⟩
  ·simp at h; subst h; exact .inr ⟨_,rfl⟩
 ·simp at h; subst h; exact .inr ⟨_,rfl⟩
theorem cellX_ok (hH:HRel E H w) (hG:G.Ok E) {id a:Nat}{off:SI}{x:AV}(ha:E.loc id=some a) (h:cellX G H id off=.inl x) :
  ∃ v,w.cell? ⟨a,(off.den E).toNat,none⟩=some v∧VRel E x v∧w.frozen? ⟨a,(off.den E).toNat,none⟩=false:=by
 unfold cellX at h
 split at h
 ·rename_i md r n pat e hget
  split at h
  case isFalse=>simp at h
  rename_i hm
  obtain⟨a',o,h1,h2,vs,fz,e2,rfl,hfz,hr,_⟩:=hH.blk id _ hget
  have e':a'=a:=by rw[ha] at h1; simpa using h1.symm
  subst e'
  obtain⟨rfl,he2⟩:=hfz hm
  obtain⟨_,u,hu,hvu⟩:=cellRow_ok hG (hr.row hm) h
  exact⟨u,by simp [World.cell?,h2,hu],hvu,by simp [World.frozen?,h2]⟩
 ·rename_i b hno hb
  split at h
  case h_2=>simp at h
  rename_i o
  split at h
  case h_2=>simp at h
  rename_i v hv
  simp at h; subst h
  obtain⟨a',o',h1,h2,h3⟩:=hH.blk id b hb
  have e':a'=a:=by rw[ha] at h1; simpa using h1.symm
  subst e'
  obtain⟨v',k1,k2,k3⟩:=AB.cell_ok h3 h2 hv
  exact⟨v',k1,k2,k3⟩
 ·simp at h
theorem setX_ok (hH:HRel E H w) (hG:G.Ok E) {id a:Nat}{off:SI}{H':AHeap}{x:AV}{u:Value}(ha:E.loc id=some a) (h:setX G H id off x=.inl H') (hv:VRel E x u) :
  EffOK E H w E H' (w.setCell ⟨a,(off.den E).toNat,none⟩ u):=by
 unfold setX at h
 split at h
 ·rename_i md r n pat e hget
  split at h
  case isFalse=>simp at h
  rename_i hm
  split at h
  case h_2=>simp at h
  rename_i r' hr'
  simp at h; subst h
  obtain⟨a',o,h1,h2,vs,fz,e2,rfl,hfz,hr,hown,hopn⟩:=hH.blk id _ hget
  have e':a'=a:=by rw[ha] at h1; simpa using h1.symm
  subst e'
  obtain⟨rfl,he2⟩:=hfz hm
  have hrw:(AB.row md r n pat e).rw=true:=by cases md <;> first | rfl | simp [Md.isRo] at hm
  obtain⟨_,q1,q2,q3⟩:=setRow_ok hG (hr.row hm) hr' hv
  have hblk:(w.setCell ⟨a',(off.den E).toNat,none⟩ u).heap[a']?=some (.cells (vs.setIfInBounds (off.den E).toNat u) e (0,0)):=by
   simp [World.setCell,Array.getElem?_modify,h2,he2]
  have hlive:Live E H a':=⟨id,_,.inl hget,hrw,ha⟩
  exact⟨Env.le.refl E,hH.upd hget hrw ha (by simp [World.setCell]) ⟨_,hblk,_,(0,0),_,rfl,fun _=>⟨rfl,rfl⟩,by cases md <;> first | exact q3 | simp [Md.isRo] at hm,by simpa using hown,by simpa using hopn⟩
    (fun j hj=>by simp only[World.setCell,Array.getElem?_modify]; rw[if_neg (fun e=>hj e.symm)]),
   Kept.setCell w _ hlive,fun x hx=>.inl (Live.upd hH hget hrw hx),rfl⟩
 ·rename_i b hno hb
  split at h
  case h_2=>simp at h
  rename_i o
  split at h
  case h_2=>simp at h
  rename_i b' hb'
  simp at h; subst h
  exact set_cell hH hb ha hb' hv
 ·simp at h
theorem extern_V (hH:HRel E H w) (hG:G.Ok E) {e:ExtOp}{args:List AV}{vs:List Value}(hv:VRelL E args vs):OutV P E H w (extern G H e args) (e.sem vs.toArray):=by
 unfold extern
 have marked:∀ {m:Addr→Mark} {i:Nat} {o:SI} {r:List AV},VRelL E (.ptr i o::r) vs→OutV P E H w (.val undefA) (Extern.Race.marked m vs.toArray):=by
  intro m i o r hv
  simp only[VRelL,VRel] at hv
  obtain⟨_,ys,⟨b,_,_,rfl⟩,_,rfl⟩:=hv
  refine⟨undef,VRel.undef,?_⟩
  simp [Extern.Race.marked,Extern.Race.at_,Extern.Race.none_,undef]
 split
 ·exact⟨undef,VRel.undef,by simp [ExtOp.sem,Extern.Race.none_,undef]⟩
 ·exact⟨undef,VRel.undef,by simp [ExtOp.sem,Extern.Race.none_,undef]⟩
 ·exact marked hv
 ·exact marked hv
 ·exact marked hv
 ·rename_i k id off k1 old k2 new
  simp only[VRelL,VRel] at hv
  obtain⟨_,_,⟨a,ha,h0,rfl⟩,⟨_,_,rfl,⟨_,_,rfl,rfl,rfl⟩,rfl⟩,rfl⟩:=hv
  split
  case h_2=>trivial
  case h_3=>rename_i ho; exact OutV.inr (cellX_inr ho) _
  rename_i k' n hc
  split
  case isFalse=>trivial
  rename_i hk; obtain⟨rfl,rfl,rfl⟩:=hk
  obtain⟨v,hcell,hr,hfz⟩:=cellX_ok hH hG ha hc
  have hvv:=VRel.int_inv hr; subst hvv
  have hargs:(ExtOp.casInt k2).sem [Value.pointer (some ⟨a,(off.den E).toNat,none⟩),.int k2 (old.den E),.int k2 (new.den E)].toArray =
    (do
      let a ← asAddr (Value.pointer (some ⟨a,(off.den E).toNat,none⟩))
      if ← Extern.Atomic.touchesFrozen a then unsupported (.unsafePointer "a write to bytes that a string shares")
      let eq ← match Extern.Atomic.T.int k2,← Extern.Atomic.read (.int k2) a,Value.int k2 (old.den E) with
       | _,.int _ x,.int _ y=>pure (x == y)
       | .ptr,.pointer x,.pointer y=>samePointer x y
       | .int _,.pointer (some _),.int _ 0 | .int _,.int _ 0,.pointer (some _)=>pure false
       | .int _,.pointer (some _),_ | .int _,_,.pointer (some _)=>unsupported .addressObserved
       | _, _, _ => stuck "atomic.CompareAndSwap: old is no T"
      if eq then store a (.int k2 (new.den E)) .atomic
      pure (.bool eq)):=rfl
  rw[hargs]
  refine withB_V hG (fun h=>?_) (fun h=>?_)
  ·rw[mkEql_den hG] at h
   have h:n.den E=old.den E:=by simpa using h
   split
   case h_2=>rename_i ho; exact OutV.inr (setX_inr ho) _
   rename_i H' hb'
   refine⟨E,_,.bool true,setX_ok hH hG ha hb' (VRel.int_mk k2 rfl),VRel.bool_mk rfl,?_⟩
   simp [Extern.Atomic.touchesFrozen,Extern.Atomic.read,asAddr,viewAt,World.shape?_isSome_of_cell? hcell,hcell,hfz,h,run_store_ok (P:=P) (m:=.atomic) (v:=.int k2 (new.den E)) rfl hcell hfz]
  ·rw[mkEql_den hG] at h
   have h:¬ n.den E=old.den E:=by simpa using h
   refine⟨.bool false,VRel.bool_mk rfl,?_⟩
   simp [Extern.Atomic.touchesFrozen,Extern.Atomic.read,asAddr,viewAt,World.shape?_isSome_of_cell? hcell,hcell,hfz,h]
 ·rename_i id off k v
  simp only[VRelL,VRel] at hv
  obtain⟨_,_,⟨a,ha,h0,rfl⟩,⟨_,_,rfl,rfl,rfl⟩,rfl⟩:=hv
  split
  case h_2=>trivial
  case h_3=>rename_i ho; exact OutV.inr (cellX_inr ho) _
  rename_i k' n hc
  split
  case isFalse=>trivial
  rename_i hk; subst hk
  split
  case h_2=>rename_i ho; exact OutV.inr (setX_inr ho) _
  rename_i H' hb'
  obtain⟨u,hcell,hr,hfz⟩:=cellX_ok hH hG ha hc
  refine⟨E,_,undef,setX_ok hH hG ha hb' (VRel.int_mk k rfl),VRel.undef,?_⟩
  have hargs:ExtOp.storeInt.sem [Value.pointer (some ⟨a,(off.den E).toNat,none⟩),.int k (v.den E)].toArray=(do
     store (← asAddr (Value.pointer (some ⟨a,(off.den E).toNat,none⟩))) (.int k (v.den E)) .atomic
     pure Extern.Atomic.none_):=rfl
  rw[hargs]
  simp [asAddr,run_store_ok (P:=P) (m:=.atomic) (v:=.int k (v.den E)) rfl hcell hfz,Extern.Atomic.none_,undef]
 ·rename_i k id off
  simp only[VRelL,VRel] at hv
  obtain⟨_,_,⟨a,ha,h0,rfl⟩,rfl,rfl⟩:=hv
  split
  case h_2=>trivial
  case h_3=>rename_i ho; exact OutV.inr (cellX_inr ho) _
  rename_i k' n hc
  split
  case isFalse=>trivial
  rename_i hk; subst hk
  obtain⟨v,hcell,hr,_⟩:=cellX_ok hH hG ha hc
  have hvv:=VRel.int_inv hr; subst hvv
  refine⟨_,hr,?_⟩
  have:(ExtOp.loadInt k).sem [Value.pointer (some ⟨a,(off.den E).toNat,none⟩)].toArray=(do Extern.Atomic.read (.int k) (← asAddr (Value.pointer (some ⟨a,(off.den E).toNat,none⟩)))):=rfl
  rw[this]
  simp [Extern.Atomic.read,asAddr,hcell]
 ·rename_i k id off k2 d
  simp only[VRelL,VRel] at hv
  obtain⟨_,_,⟨a,ha,h0,rfl⟩,⟨_,_,rfl,rfl,rfl⟩,rfl⟩:=hv
  split
  case h_2=>trivial
  case h_3=>rename_i ho; exact OutV.inr (cellX_inr ho) _
  rename_i k' n hc
  split
  case isFalse=>trivial
  rename_i hk; subst hk
  split
  case h_2=>rename_i ho; exact OutV.inr (setX_inr ho) _
  rename_i H' hb'
  obtain⟨v,hcell,hr,hfz⟩:=cellX_ok hH hG ha hc
  have hvv:=VRel.int_inv hr; subst hvv
  have hnew:VRel E (.int k (mkWrap G k (mkAdd n d))) (.int k (k.wrap (n.den E+d.den E))):=VRel.int_mk k (by rw[mkWrap_den hG,mkAdd_den])
  refine⟨E,_,_,setX_ok hH hG ha hb' hnew,hnew,?_⟩
  ·have:(ExtOp.addInt k).sem [Value.pointer (some ⟨a,(off.den E).toNat,none⟩),.int k2 (d.den E)].toArray=(do
     let a ← asAddr (Value.pointer (some ⟨a,(off.den E).toNat,none⟩))
     let old ← Extern.Atomic.read (.int k) a
     let new ← Op.intArith .add k (← asInt old) (← asInt (.int k2 (d.den E)))
     store a new .atomic
     pure (if true then new else old)):=rfl
   rw[this]
   simp [Extern.Atomic.read,asAddr,hcell,asInt,asIntOf,Op.intArith,run_store_ok (P:=P) (m:=.atomic) (v:=.int k (k.wrap (n.den E+d.den E))) rfl hcell hfz]
 ·trivial
theorem callFunc_OK (hH:HRel E H w) (hG:G.Ok E) {f:FuncId}{args:List AV}{vs:List Value}(hv:VRelL E args vs):OutOK P E H w (callFuncA P G H f args) (callFunc f vs.toArray):=by
 unfold callFuncA
 split
 ·trivial
 ·rename_i fn hf
  split
  ·trivial
  ·rename_i hname
   split
   ·rename_i c hc
    have hne : ¬ fn.name = "runtime.NumGoroutine" := by simpa using hname
    exact⟨vs,hv,by simp [callFunc,hf,hne,hc]⟩
   ·rename_i hc
    split
    ·trivial
    ·rename_i ho
     have ho:=Decidable.not_not.1 ho
     split
     ·rename_i e he
      obtain⟨h1,h2⟩:=extA_ok he ho
      have:=extern_V (P:=P) hH hG (e:=e) hv
      have hrun:(callFunc f vs.toArray).run P w=(do pure (Next.value (← e.sem vs.toArray)):Sem Next).run P w:=by
       have hne : ¬ fn.name = "runtime.NumGoroutine" := by simpa using hname
       simp [callFunc,hf,hne,hc,h1,h2]
      have hok:=OutV.ok this
      revert hok
      cases extern G H e args <;> simp only[OutOK,CommTo,hrun] <;> exact id
     ·trivial
end Go.Ev
