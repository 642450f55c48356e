/- Ev, part L: calls, and every operation. -/
import Derived.Test.YtgbdokemijlgeaaEvK
import Derived.KernelRfl
set_option linter.unusedVariables false
namespace Go.Ev

variable {P : Program} {E : Env} {G : Ctx} {H : AHeap} {w : World}

theorem len_V (hH : HRel E H w) {argTypes : Array TypeId} {t ty : TypeId} {x : AV} {v : Value} (ht : argTypes[0]? = some t) (hx : VRel E x v) :
    OutV P E H w (lenA P H t x) (Builtin.len_ argTypes ty #[v]) := by
  unfold lenA
  split
  · rename_i e hu
    split
    · rename_i n hn
      obtain ⟨base, c, rfl⟩ := lenOfA_inv hx hn
      exact ⟨.int .i64 n, VRel.int_mk _ rfl, by simp [Builtin.len_, ht, underlying_ok hu, goInt]⟩
    · trivial
  · rename_i n e hu
    exact ⟨.int .i64 n, VRel.int_mk _ rfl, by simp [Builtin.len_, ht, underlying_ok hu, goInt]⟩
  · rename_i d e id hu
    simp only [VRel] at hx
    obtain ⟨b, hb, rfl⟩ := hx
    split
    · rename_i cap buf hget
      obtain ⟨a, ob, ha, hob, hbr⟩ := hH.blk id _ hget
      have e : a = b := by rw [hb] at ha; simpa using ha.symm
      subst e
      obtain ⟨us, s, r, hus, rfl⟩ := hbr
      exact ⟨.int .i64 buf.length, VRel.int_mk _ rfl, by simp [Builtin.len_, ht, underlying_ok hu, goInt, getObj, Sem.run, hob, hus.length]⟩
    · trivial
  · trivial

theorem min_V (hG : G.Ok E) {argTypes : Array TypeId} {ty : TypeId} {l : List AV} {vs : List Value} (hv : VRelL E l vs) :
    OutV P E H w (minA G l) (Builtin.min_ argTypes ty vs.toArray) := by
  unfold minA
  split
  · rename_i k a k' b
    simp only [VRelL, VRel] at hv
    obtain ⟨_, _, rfl, ⟨_, _, rfl, rfl, rfl⟩, rfl⟩ := hv
    split
    · rename_i hk; subst hk
      refine withB_V hG (fun h => ?_) (fun h => ?_)
      · rw [mkLss_den hG] at h
        have h := of_decide_eq_true h
        exact ⟨_, VRel.int_mk k rfl, by simp [Builtin.min_, Builtin.min2, h]⟩
      · rw [mkLss_den hG] at h
        have h := of_decide_eq_false h
        exact ⟨_, VRel.int_mk k rfl, by simp [Builtin.min_, Builtin.min2, h]⟩
    · trivial
  · trivial
theorem max_V (hG : G.Ok E) {argTypes : Array TypeId} {ty : TypeId} {l : List AV} {vs : List Value} (hv : VRelL E l vs) :
    OutV P E H w (maxA G l) (Builtin.max_ argTypes ty vs.toArray) := by
  unfold maxA
  split
  · rename_i k a k' b
    simp only [VRelL, VRel] at hv
    obtain ⟨_, _, rfl, ⟨_, _, rfl, rfl, rfl⟩, rfl⟩ := hv
    split
    · rename_i hk; subst hk
      refine withB_V hG (fun h => ?_) (fun h => ?_)
      · rw [mkLss_den hG] at h
        have h := of_decide_eq_true h
        exact ⟨_, VRel.int_mk k rfl, by simp [Builtin.max_, Builtin.max2, h]⟩
      · rw [mkLss_den hG] at h
        have h := of_decide_eq_false h
        exact ⟨_, VRel.int_mk k rfl, by simp [Builtin.max_, Builtin.max2, h]⟩
    · trivial
  · trivial

theorem part_V {t : TypeId} {cs : List AV} {vs : List Value} {off : Nat} (hv : VRelL E cs vs) : OutV P E H w (partA P t cs off) (part t vs.toArray off) := by
  unfold partA
  split
  · rename_i ha
    split
    · rename_i n hn
      refine ⟨.agg ((vs.drop off).take n).toArray, by simp only [VRel]; exact ⟨_, (hv.drop off).take n, rfl⟩, ?_⟩
      simp [part, isAggB_ok ha, sizeB_ok hn]
    · trivial
  · rename_i ha
    split
    · rename_i v hvv
      obtain ⟨u, hu, hr⟩ := hv.get hvv
      exact ⟨u, hr, by simp [part, isAggB_ok ha, hu]⟩
    · trivial
  · trivial

theorem assert_V {x : AV} {v : Value} {xt t : TypeId} {ok : Bool} (hx : VRel E x v) : OutV P E H w (typeAssertA P x t ok) (Instr.typeAssert v xt t ok) := by
  unfold typeAssertA
  split
  · trivial
  · rename_i d u y hni hu
    simp only [VRel] at hx
    obtain ⟨y', hy, rfl⟩ := hx
    split
    · rename_i e; subst e
      refine ⟨if ok then .tuple #[y', .bool true] else y', ?_, ?_⟩
      · cases ok
        · exact hy
        · simp only [if_true, VRel]
          exact ⟨[y', .bool true], VRelL.cons hy (VRelL.cons (VRel.bool_mk rfl) VRelL.nil), rfl⟩
      · cases d <;> first | (exact (hni _ rfl).elim) | (simp [Instr.typeAssert, underlying_ok hu])
    · rename_i hne
      split
      · rename_i hok
        subst hok
        split
        · rename_i z hz
          obtain ⟨zv, hzr, hzrun⟩ := zeroB_ok (E := E) hz
          refine ⟨.tuple #[zv, .bool false], ?_, ?_⟩
          · simp only [VRel]
            exact ⟨[zv, .bool false], VRelL.cons hzr (VRelL.cons (VRel.bool_mk rfl) VRelL.nil), rfl⟩
          · cases d <;> first | (exact (hni _ rfl).elim) | (simp [Instr.typeAssert, underlying_ok hu, hne, hzrun])
        · trivial
      · trivial
  · rename_i d hni hu
    simp only [VRel] at hx; subst hx
    split
    · rename_i hok
      subst hok
      split
      · rename_i z hz
        obtain ⟨zv, hzr, hzrun⟩ := zeroB_ok (E := E) hz
        refine ⟨.tuple #[zv, .bool false], ?_, ?_⟩
        · simp only [VRel]
          exact ⟨[zv, .bool false], VRelL.cons hzr (VRelL.cons (VRel.bool_mk rfl) VRelL.nil), rfl⟩
        · cases d <;> first | (exact (hni _ rfl).elim) | (simp [Instr.typeAssert, underlying_ok hu, hzrun])
      · trivial
    · trivial
  · trivial

/-! ## the library's functions without a body -/
theorem lookups (n : String) (e : Array Value → Sem Value) (h0 : (Extern.allNextRows.lookup n).isNone = true) (h1 : (Extern.allGenericRows.lookup n).isNone = true) (h2 : (Extern.allTypedRows.lookup n).isNone = true)
    (h3 : Extern.allRows.lookup n = some e) (h4 : (Extern.allNextRows.lookup "").isNone = true) : ∀ fn : Func, fn.name = n → fn.origin = "" → Extern.findNext fn = none ∧ Extern.find fn = some e := by
  intro fn hn ho
  simp only [Option.isNone_iff_eq_none] at h0 h1 h2 h4
  refine ⟨?_, ?_⟩
  · simp [Extern.findNext, hn, ho, h0, h4]
  · simp [Extern.find, hn, h1, h2, h3]
theorem noNext : (Extern.allNextRows.lookup "").isNone = true := by kernel_rfl

open Extern.Atomic in
theorem ext_loadI64 : ∀ fn : Func, fn.name = "sync/atomic.LoadInt64" → fn.origin = "" → Extern.findNext fn = none ∧ Extern.find fn = some (loadT (.int .i64)) :=
  lookups _ _ (by kernel_rfl) (by kernel_rfl) (by kernel_rfl) (by kernel_rfl) noNext
open Extern.Atomic in
theorem ext_addI64 : ∀ fn : Func, fn.name = "sync/atomic.AddInt64" → fn.origin = "" → Extern.findNext fn = none ∧ Extern.find fn = some (update (Op.intArith .add) .i64 true) :=
  lookups _ _ (by kernel_rfl) (by kernel_rfl) (by kernel_rfl) (by kernel_rfl) noNext
open Extern.Atomic in
theorem ext_loadU64 : ∀ fn : Func, fn.name = "sync/atomic.LoadUint64" → fn.origin = "" → Extern.findNext fn = none ∧ Extern.find fn = some (loadT (.int .u64)) :=
  lookups _ _ (by kernel_rfl) (by kernel_rfl) (by kernel_rfl) (by kernel_rfl) noNext
open Extern.Atomic in
theorem ext_addU64 : ∀ fn : Func, fn.name = "sync/atomic.AddUint64" → fn.origin = "" → Extern.findNext fn = none ∧ Extern.find fn = some (update (Op.intArith .add) .u64 true) :=
  lookups _ _ (by kernel_rfl) (by kernel_rfl) (by kernel_rfl) (by kernel_rfl) noNext
open Extern.Atomic in
theorem ext_casU64 : ∀ fn : Func, fn.name = "sync/atomic.CompareAndSwapUint64" → fn.origin = "" → Extern.findNext fn = none ∧ Extern.find fn = some (casT (.int .u64)) :=
  lookups _ _ (by kernel_rfl) (by kernel_rfl) (by kernel_rfl) (by kernel_rfl) noNext
open Extern.Atomic in
theorem ext_loadI32 : ∀ fn : Func, fn.name = "sync/atomic.LoadInt32" → fn.origin = "" → Extern.findNext fn = none ∧ Extern.find fn = some (loadT (.int .i32)) :=
  lookups _ _ (by kernel_rfl) (by kernel_rfl) (by kernel_rfl) (by kernel_rfl) noNext
open Extern.Atomic in
theorem ext_addI32 : ∀ fn : Func, fn.name = "sync/atomic.AddInt32" → fn.origin = "" → Extern.findNext fn = none ∧ Extern.find fn = some (update (Op.intArith .add) .i32 true) :=
  lookups _ _ (by kernel_rfl) (by kernel_rfl) (by kernel_rfl) (by kernel_rfl) noNext
open Extern.Atomic in
theorem ext_casI32 : ∀ fn : Func, fn.name = "sync/atomic.CompareAndSwapInt32" → fn.origin = "" → Extern.findNext fn = none ∧ Extern.find fn = some (casT (.int .i32)) :=
  lookups _ _ (by kernel_rfl) (by kernel_rfl) (by kernel_rfl) (by kernel_rfl) noNext

def ExtOp.sem : ExtOp → Array Value → Sem Value
  | .loadInt k => Extern.Atomic.loadT (.int k)
  | .addInt k => Extern.Atomic.update (Op.intArith .add) k true
  | .casInt k => Extern.Atomic.casT (.int k)
  | .storeInt => Extern.Atomic.storeT

theorem extA_ok {fn : Func} {e : ExtOp} (h : extA fn.name = some e) (ho : fn.origin = "") : Extern.findNext fn = none ∧ Extern.find fn = some e.sem := by
  unfold extA at h
  split at h
  · rename_i hn; simp at h; subst h; exact ext_loadI64 fn hn ho
  split at h
  · rename_i hn; simp at h; subst h; exact ext_addI64 fn hn ho
  split at h
  · rename_i hn; simp at h; subst h; exact ext_loadU64 fn hn ho
  split at h
  · rename_i hn; simp at h; subst h; exact ext_addU64 fn hn ho
  split at h
  · rename_i hn; simp at h; subst h; exact ext_casU64 fn hn ho
  split at h
  · rename_i hn; simp at h; subst h; exact ext_loadI32 fn hn ho
  split at h
  · rename_i hn; simp at h; subst h; exact ext_addI32 fn hn ho
  split at h
  · rename_i hn; simp at h; subst h; exact ext_casI32 fn hn ho
  · simp at h

theorem extern_V (hH : HRel E H w) (hG : G.Ok E) {e : ExtOp} {args : List AV} {vs : List Value} (hv : VRelL E args vs) : OutV P E H w (extern G H e args) (e.sem vs.toArray) := by
  unfold extern
  split
  · rename_i k id off
    simp only [VRelL, VRel] at hv
    obtain ⟨_, _, ⟨a, ha, _, rfl⟩, rfl, rfl⟩ := hv
    split
    · rename_i k' n hc
      simp only [Option.bind_eq_some_iff] at hc
      obtain ⟨b, hb, hc⟩ := hc
      split
      · rename_i hk; subst hk
        obtain ⟨a', o, h1, h2, h3⟩ := hH.blk id b hb
        have e' : a' = a := by rw [ha] at h1; simpa using h1.symm
        subst e'
        obtain ⟨v, hcell, hr, _⟩ := AB.cell_ok h3 h2 hc
        have hvv := VRel.int_inv hr; subst hvv
        refine ⟨_, hr, ?_⟩
        have : (ExtOp.loadInt k).sem [Value.pointer (some ⟨a', (SI.den E (.lit (Int.ofNat off))).toNat, none⟩)].toArray = (do Extern.Atomic.read (.int k) (← asAddr (Value.pointer (some ⟨a', (SI.den E (.lit (Int.ofNat off))).toNat, none⟩)))) := rfl
        rw [this]
        simp [Extern.Atomic.read, asAddr, SI.den, hcell]
      · trivial
    · trivial
  · rename_i k id off k2 d
    simp only [VRelL, VRel] at hv
    obtain ⟨_, _, ⟨a, ha, _, rfl⟩, ⟨_, _, rfl, rfl, rfl⟩, rfl⟩ := hv
    split
    case h_2 => trivial
    rename_i b hb
    split
    case h_2 => trivial
    rename_i k' n hc
    split
    case isFalse => trivial
    rename_i hk; subst hk
    simp only
    split
    case h_2 => trivial
    rename_i b' hb'
    obtain ⟨a', o, h1, h2, h3⟩ := hH.blk id b hb
    have e' : a' = a := by rw [ha] at h1; simpa using h1.symm
    subst e'
    obtain ⟨v, hcell, hr, hfz⟩ := AB.cell_ok h3 h2 hc
    have hvv := VRel.int_inv hr; subst hvv
    have hnew : VRel E (.int k (mkWrap G k (mkAdd n d))) (.int k (k.wrap (n.den E + d.den E))) := VRel.int_mk k (by rw [mkWrap_den hG, mkAdd_den])
    obtain ⟨_, _, o', ho', hbr⟩ := AB.setCell_ok h3 h2 hb' hnew
    refine ⟨E, w.setCell ⟨a', off, none⟩ (.int k (k.wrap (n.den E + d.den E))), _, ⟨Env.le.refl E, ?_, ?_, fun x hx => .inl (Live.upd hb hx), rfl⟩, hnew, ?_⟩
    · exact hH.upd hb h1 (by simp [World.setCell]) ⟨o', ho', hbr⟩ (fun j hj => by simp only [World.setCell, Array.getElem?_modify]; rw [if_neg (fun e => hj e.symm)])
    · exact Kept.setCell w _ ⟨id, b, hb, h1⟩
    · have : (ExtOp.addInt k).sem [Value.pointer (some ⟨a', (SI.den E (.lit (Int.ofNat off))).toNat, none⟩), .int k2 (d.den E)].toArray = (do
          let a ← asAddr (Value.pointer (some ⟨a', (SI.den E (.lit (Int.ofNat off))).toNat, none⟩))
          let old ← Extern.Atomic.read (.int k) a
          let new ← Op.intArith .add k (← asInt old) (← asInt (.int k2 (d.den E)))
          store a new .atomic
          pure (if true then new else old)) := rfl
      rw [this]
      simp [Extern.Atomic.read, asAddr, SI.den, hcell, asInt, asIntOf, Op.intArith, run_store_ok (P := P) (m := .atomic) (v := .int k (k.wrap (n.den E + d.den E))) rfl hcell hfz]
  · trivial

theorem callFunc_OK (hH : HRel E H w) (hG : G.Ok E) {f : FuncId} {args : List AV} {vs : List Value} (hv : VRelL E args vs) : OutOK P E H w (callFuncA P G H f args) (callFunc f vs.toArray) := by
  unfold callFuncA
  split
  · trivial
  · rename_i fn hf
    split
    · trivial
    · rename_i hname
      split
      · rename_i c hc
        have hne : ¬ fn.name = "runtime.NumGoroutine" := by simpa using hname
        exact ⟨vs, hv, by simp [callFunc, hf, hne, hc]⟩
      · rename_i hc
        split
        · trivial
        · rename_i ho
          have ho := Decidable.not_not.1 ho
          split
          · rename_i e he
            obtain ⟨h1, h2⟩ := extA_ok he ho
            have := extern_V (P := P) hH hG (e := e) hv
            have hrun : (callFunc f vs.toArray).run P w = (do pure (Next.value (← e.sem vs.toArray)) : Sem Next).run P w := by
              have hne : ¬ fn.name = "runtime.NumGoroutine" := by simpa using hname
              simp [callFunc, hf, hne, hc, h1, h2]
            have hok := OutV.ok this
            revert hok
            cases extern G H e args <;> simp only [OutOK, CommTo, hrun] <;> exact id
          · trivial

end Go.Ev
