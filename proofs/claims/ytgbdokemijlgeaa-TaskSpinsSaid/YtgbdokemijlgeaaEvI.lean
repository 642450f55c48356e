/- Ev, part I: slices of slices, make, append. -/
import Derived.Test.YtgbdokemijlgeaaEvH
set_option linter.unusedVariables false
namespace Go.Ev

variable {P : Program} {E : Env} {G : Ctx} {H : AHeap} {w : World}

theorem VRel.slice_mk {id b : Nat} {off len cap : SI} {o : Nat} {l c : Nat} (hb : E.loc id = some b) (ho : off.den E = o) (hl : (len.den E).toNat = l) (hc : (cap.den E).toNat = c) :
    VRel E (.slice id off len cap) (.slice (some ⟨b, o, none⟩) l c) := by
  simp only [VRel]; exact ⟨b, hb, by omega, by rw [ho, hl, hc]; simp⟩

theorem add_off {off l : SI} {n q m : Nat} (hq : off.den E = q) (hm : l.den E = m) : (mkAdd off (mkMul l (.lit n))).den E = ((q + m * n : Nat) : Int) := by
  rw [mkAdd_den, mkMul_den, hq, hm]; simp only [SI.den]; push_cast; rfl

theorem slice_tail {b o n l h m : Nat} {c : Prop} [Decidable c] {id : Nat} {off lo hi cp : SI} (hb : E.loc id = some b) (ho : off.den E = o) (hl : lo.den E = l) (hh : hi.den E = h) (hm : cp.den E = m) :
    (c → VRel E (.slice id off (mkSub hi lo) (mkSub cp lo)) (.slice (if c then some ⟨b, o, none⟩ else (some (⟨b, o, none⟩ : Addr)).map (·.add (l * n))) ((h : Int) - l).toNat ((m : Int) - l).toNat)) ∧
    (¬ c → VRel E (.slice id (mkAdd off (mkMul lo (.lit n))) (mkSub hi lo) (mkSub cp lo)) (.slice (if c then some ⟨b, o, none⟩ else (some (⟨b, o, none⟩ : Addr)).map (·.add (l * n))) ((h : Int) - l).toNat ((m : Int) - l).toNat)) := by
  refine ⟨fun hc => ?_, fun hc => ?_⟩
  · rw [if_pos hc]
    exact VRel.slice_mk hb ho (by rw [mkSub_den, hh, hl]) (by rw [mkSub_den, hm, hl])
  · rw [if_neg hc]
    simp only [Option.map_some, add_none]
    exact VRel.slice_mk hb (add_off ho hl) (by rw [mkSub_den, hh, hl]) (by rw [mkSub_den, hm, hl])

theorem nat_of (a : SI) (h : 0 ≤ a.den E) : ∃ n : Nat, a.den E = n := Int.eq_ofNat_of_zero_le h

theorem slice_V (hG : G.Ok E) {t : TypeId} {x : AV} {v : Value} {lo hi mx : Option SI} {lov hiv mxv : Option Value} (hx : VRel E x v) (hlo : numRel E lo lov) (hhi : numRel E hi hiv) (hmx : numRel E mx mxv) :
    OutV P E H w (sliceA P G t x lo hi mx) (Instr.sliceAt t v lov hiv mxv) := by
  have rlo := numRel_lo hlo
  unfold sliceA
  split
  case h_2 => trivial
  rename_i e hu
  split
  case h_2 => trivial
  rename_i n hn
  have rhi : ∀ (len : Nat) (d : SI), d.den E = len → mxv = none → (hiv = none ∧ mxv = none ∧ (hi.getD d).den E = (len : Int)) ∨ ∃ k, hiv = some (.int k ((hi.getD d).den E)) := by
    intro len d hd hm0
    cases hi with
    | none => exact .inl ⟨hhi, hm0, by simpa using hd⟩
    | some q => obtain ⟨k, rfl⟩ := hhi; exact .inr ⟨k, rfl⟩
  split
  · -- slice, no max
    rename_i id off len cap
    simp only [VRel] at hx
    obtain ⟨b, hb, ho, rfl⟩ := hx
    have hm0 : mxv = none := hmx
    refine withB_V hG (fun _ => trivial) (fun h0 => withB_V hG (fun _ => trivial) (fun h1 => withB_V hG (fun _ => trivial) (fun h2 => ?_)))
    rw [mkLss_den hG] at h0 h1 h2
    have h0 := Int.not_lt.1 (of_decide_eq_false h0)
    have h1 := Int.not_lt.1 (of_decide_eq_false h1)
    have h2 := Int.not_lt.1 (of_decide_eq_false h2)
    simp only [SI.den] at h0
    obtain ⟨l, hl⟩ := nat_of (E := E) _ h0
    obtain ⟨h, hh⟩ := nat_of (E := E) _ (Int.le_trans h0 h1)
    obtain ⟨m, hm⟩ := nat_of (E := E) cap (by omega)
    obtain ⟨q, hq⟩ := nat_of (E := E) off ho
    have hrun := slice_run (P := P) (w := w) (base := some ⟨b, (off.den E).toNat, none⟩) (len := (len.den E).toNat) (cap := (cap.den E).toNat) (l := l) (h := h) (m := m) hu hn
      (by rw [← hl]; exact rlo) (.inl ⟨hm0, by rw [hm]; simp⟩)
      (by
        cases hi with
        | none => exact .inl ⟨hhi, hm0, by rw [← hh]; simp only [Option.getD_none] at hh ⊢; omega⟩
        | some p => obtain ⟨k, hk⟩ := hhi; exact .inr ⟨k, by rw [← hh]; simpa using hk⟩) (by omega) (by omega) (by omega) (by omega)
    have hq' : (off.den E).toNat = q := by omega
    rw [hq'] at hrun ⊢
    obtain ⟨t1, t2⟩ := slice_tail (c := ((m : Int) = l)) (n := n) hb hq hl hh hm
    refine withB_V hG (fun hc => ?_) (fun hc => ?_)
    · rw [mkEql_den hG, hl, hm] at hc
      exact ⟨_, t1 (by simpa using hc), by simpa using hrun⟩
    · rw [mkEql_den hG, hl, hm] at hc
      exact ⟨_, t2 (by simpa using hc), by simpa using hrun⟩
  · -- slice, max
    rename_i id off len cap mm
    simp only [VRel] at hx
    obtain ⟨b, hb, ho, rfl⟩ := hx
    split
    case h_2 => trivial
    rename_i hh0
    obtain ⟨km, rfl⟩ := hmx
    obtain ⟨kh, rfl⟩ := hhi
    refine withB_V hG (fun _ => trivial) (fun h0 => withB_V hG (fun _ => trivial) (fun h1 => withB_V hG (fun _ => trivial) (fun h2 => withB_V hG (fun _ => trivial) (fun h3 => ?_))))
    rw [mkLss_den hG] at h0 h1 h2 h3
    have h0 := Int.not_lt.1 (of_decide_eq_false h0)
    have h1 := Int.not_lt.1 (of_decide_eq_false h1)
    have h2 := Int.not_lt.1 (of_decide_eq_false h2)
    have h3 := Int.not_lt.1 (of_decide_eq_false h3)
    simp only [SI.den] at h0
    obtain ⟨l, hl⟩ := nat_of (E := E) _ h0
    obtain ⟨h, hh⟩ := nat_of (E := E) _ (Int.le_trans h0 h1)
    obtain ⟨m, hm⟩ := nat_of (E := E) mm (by omega)
    obtain ⟨q, hq⟩ := nat_of (E := E) off ho
    have hrun := slice_run (P := P) (w := w) (base := some ⟨b, (off.den E).toNat, none⟩) (len := (len.den E).toNat) (cap := (cap.den E).toNat) (l := l) (h := h) (m := m) hu hn
      (by rw [← hl]; exact rlo) (.inr ⟨km, by rw [← hm]⟩) (.inr ⟨kh, by rw [← hh]⟩) (by omega) (by omega) (by omega) (by omega)
    have hq' : (off.den E).toNat = q := by omega
    rw [hq'] at hrun ⊢
    obtain ⟨t1, t2⟩ := slice_tail (c := ((m : Int) = l)) (n := n) hb hq hl hh hm
    refine withB_V hG (fun hc => ?_) (fun hc => ?_)
    · rw [mkEql_den hG, hl, hm] at hc
      exact ⟨_, t1 (by simpa using hc), by simpa using hrun⟩
    · rw [mkEql_den hG, hl, hm] at hc
      exact ⟨_, t2 (by simpa using hc), by simpa using hrun⟩
  · -- slack, max
    rename_i id skip size' len m
    simp only [VRel] at hx
    obtain ⟨b, hb, hcap, rfl⟩ := hx
    split
    case h_2 => trivial
    rename_i l h hlo' 
    obtain ⟨km, rfl⟩ := hmx
    obtain ⟨kh, rfl⟩ := hhi
    split
    case isFalse => trivial
    rename_i hc
    obtain ⟨rfl, h1, h2, h3⟩ := hc
    have hl : (lo.getD (.lit 0)).den E = (l : Int) := by rw [hlo']; rfl
    have hrun := slice_run (P := P) (w := w) (base := some ⟨b, skip * size', none⟩) (len := len) (cap := E.cap id - skip) (l := l) (h := h) (m := m) hu hn
      (by rw [← hl]; exact rlo) (.inr ⟨km, rfl⟩) (.inr ⟨kh, rfl⟩) (by omega) (by omega) (by omega) (by omega)
    refine ⟨_, ?_, hrun⟩
    by_cases e : m = l
    · rw [if_pos e, if_pos (by omega)]
      exact VRel.slice_mk hb (by simp [SI.den]) (by simp [SI.den]) (by simp [SI.den])
    · rw [if_neg e, if_neg (by omega)]
      simp only [Option.map_some, add_none]
      exact VRel.slice_mk hb (by simp only [SI.den, Int.toNat_natCast, Nat.add_mul]) (by simp [SI.den]) (by simp [SI.den])
  · -- slack, no max
    rename_i id skip size' len
    simp only [VRel] at hx
    obtain ⟨b, hb, hcap, rfl⟩ := hx
    have hm0 : mxv = none := hmx
    split
    case h_2 => trivial
    rename_i l h hlo' hhi'
    split
    case isFalse => trivial
    rename_i hc
    obtain ⟨rfl, h1, h2⟩ := hc
    have hl : (lo.getD (.lit 0)).den E = (l : Int) := by rw [hlo']; rfl
    have hh : (hi.getD (.lit len)).den E = (h : Int) := by rw [hhi']; rfl
    have hrun := slice_run (P := P) (w := w) (base := some ⟨b, skip * size', none⟩) (len := len) (cap := E.cap id - skip) (l := l) (h := h) (m := ((E.cap id - skip : Nat) : Int)) hu hn
      (by rw [← hl]; exact rlo) (.inl ⟨hm0, rfl⟩)
      (by have := rhi len (.lit len) rfl hm0; rw [hh] at this; exact this) (by omega) (by omega) (by omega) (by omega)
    split
    · rename_i hlt
      refine ⟨_, ?_, hrun⟩
      rw [if_neg (by omega)]
      simp only [Option.map_some, add_none, VRel]
      refine ⟨b, hb, by omega, ?_⟩
      have e1 : ((h : Int) - l).toNat = h - l := by omega
      have e2 : (((E.cap id - skip : Nat) : Int) - l).toNat = E.cap id - (skip + l) := by omega
      rw [e1, e2, Int.toNat_natCast, Nat.add_mul]
    · rename_i hlt
      refine ⟨_, ?_, hrun⟩
      simp only [VRel]
      have e1 : ((h : Int) - l).toNat = 0 := by omega
      rw [e1]
      by_cases e : ((E.cap id - skip : Nat) : Int) = (l : Int)
      · rw [if_pos e]; exact ⟨_, _, by simp, rfl⟩
      · rw [if_neg e]; exact ⟨_, _, by simp, rfl⟩
  · -- empty, max 0
    rename_i full
    simp only [VRel] at hx
    obtain ⟨a, c, hf, rfl⟩ := hx
    split
    case h_2 => trivial
    rename_i hlo'
    obtain ⟨km, rfl⟩ := hmx
    obtain ⟨kh, rfl⟩ := hhi
    have hl : (lo.getD (.lit 0)).den E = (0 : Int) := by rw [hlo']; rfl
    have hrun := slice_run (P := P) (w := w) (base := some a) (len := 0) (cap := c) (l := 0) (h := 0) (m := 0) hu hn
      (by rw [hl] at rlo; exact rlo) (.inr ⟨km, rfl⟩) (.inr ⟨kh, rfl⟩) (by omega) (by omega) (by omega) (by omega)
    exact ⟨_, by simp only [VRel]; exact ⟨a, 0, by simp, rfl⟩, by simpa [SI.den] using hrun⟩
  · -- empty, no max
    rename_i full
    simp only [VRel] at hx
    obtain ⟨a, c, hf, rfl⟩ := hx
    have hm0 : mxv = none := hmx
    split
    case h_2 => trivial
    rename_i hlo' hhi'
    have hl : (lo.getD (.lit 0)).den E = (0 : Int) := by rw [hlo']; rfl
    have hh : (hi.getD (.lit 0)).den E = (0 : Int) := by rw [hhi']; rfl
    have hrun := slice_run (P := P) (w := w) (base := some a) (len := 0) (cap := c) (l := 0) (h := 0) (m := (c : Int)) hu hn
      (by rw [hl] at rlo; exact rlo) (.inl ⟨hm0, rfl⟩)
      (by have := rhi 0 (.lit 0) rfl hm0; rw [hh] at this; exact this) (by omega) (by omega) (by omega) (by omega)
    refine ⟨_, ?_, hrun⟩
    simp only [VRel]
    by_cases e : (c : Int) = 0
    · rw [if_pos e]; exact ⟨a, c, hf, by simp⟩
    · rw [if_neg e]; exact ⟨_, c, hf, by simp; rfl⟩
  · -- nil, no max
    simp only [VRel] at hx; subst hx
    have hm0 : mxv = none := hmx
    split
    case h_2 => trivial
    rename_i hlo' hhi'
    have hl : (lo.getD (.lit 0)).den E = (0 : Int) := by rw [hlo']; rfl
    have hh : (hi.getD (.lit 0)).den E = (0 : Int) := by rw [hhi']; rfl
    have hrun := slice_run (P := P) (w := w) (base := none) (len := 0) (cap := 0) (l := 0) (h := 0) (m := 0) hu hn
      (by rw [hl] at rlo; exact rlo) (.inl ⟨hm0, rfl⟩)
      (by have := rhi 0 (.lit 0) rfl hm0; rw [hh] at this; exact this) (by omega) (by omega) (by omega) (by omega)
    exact ⟨.slice none 0 0, by simp only [VRel], by simpa [SI.den] using hrun⟩
  · -- nil, max
    rename_i m
    simp only [VRel] at hx; subst hx
    split
    case h_2 => trivial
    rename_i hlo'
    obtain ⟨km, rfl⟩ := hmx
    obtain ⟨kh, rfl⟩ := hhi
    have hl : (lo.getD (.lit 0)).den E = (0 : Int) := by rw [hlo']; rfl
    have hrun := slice_run (P := P) (w := w) (base := none) (len := 0) (cap := 0) (l := 0) (h := 0) (m := 0) hu hn
      (by rw [hl] at rlo; exact rlo) (.inr ⟨km, rfl⟩) (.inr ⟨kh, rfl⟩) (by omega) (by omega) (by omega) (by omega)
    exact ⟨.slice none 0 0, by simp only [VRel], by simpa [SI.den] using hrun⟩
  · trivial

/-! ## make -/
theorem replicate_rel {z : AV} {v : Value} (h : VRel E z v) (n : Nat) : ∀ i, i < n → ∃ u, (Array.replicate n v)[i]? = some u ∧ VRel E z u :=
  fun i hi => ⟨v, by simp [hi], h⟩

theorem makeSlice_V (hH : HRel E H w) {t : TypeId} {l c : AV} {lv cv : Value} (hl : VRel E l lv) (hc : VRel E c cv) :
    OutV P E H w (makeSliceA P H t l c) (Instr.makeSlice t lv cv) := by
  unfold makeSliceA
  split
  case h_2 => trivial
  rename_i e k l k' c hu
  simp only [VRel] at hl hc
  subst hl; subst hc
  split
  case h_2 => trivial
  rename_i i hi
  split
  case isFalse => trivial
  rename_i hb
  obtain ⟨b1, b2, b3⟩ := hb
  have hw1 : IntKind.i64.wrap ((l : Nat) : Int) = l := wrap_self _ _ (by simp [IntKind.min, IntKind.signed, IntKind.bits]) (by simp [IntKind.max, IntKind.signed, IntKind.bits]; omega)
  have hw2 : IntKind.i64.wrap ((c : Nat) : Int) = c := wrap_self _ _ (by simp [IntKind.min, IntKind.signed, IntKind.bits]) (by simp [IntKind.max, IntKind.signed, IntKind.bits]; omega)
  have hinfo : (typeInfo e).run P w = .ok i w := by simp [typeInfo, hi]
  have hmul : i.bytes * c ≤ 4096 * 2 ^ 26 := Nat.mul_le_mul b3 b2
  have hsmall : ¬ ((i.bytes : Int) * (c : Int) > 2 ^ 48) := by
    have : (i.bytes : Int) * (c : Int) = ((i.bytes * c : Nat) : Int) := by push_cast; rfl
    rw [this]; omega
  have hrun : ∀ (zv : Value), i.zero = some zv → (Instr.makeSlice t (.int k ((l : Nat) : Int)) (.int k' ((c : Nat) : Int))).run P w =
      .ok (.slice (some ⟨w.heap.size, 0, none⟩) l c) { w with heap := w.heap.push (.cells ((Array.range (c * i.size)).map ((if c * i.size = 0 then #[] else zv.cells)[· % (if c * i.size = 0 then #[] else zv.cells).size]!)) e) } := by
    intro zv hz
    have hz' : (zeroValue e).run P w = .ok zv w := by simp [zeroValue, hinfo, hz]
    have hs' : (sizeOf e).run P w = .ok i.size w := by simp [sizeOf, hinfo]
    have hneg : ¬ ((c : Int) < 0) := by omega
    have hneg' : ¬ ((l : Int) < 0) := by omega
    have hlc : ¬ ((l : Int) > (c : Int)) := by omega
    simp only [Instr.makeSlice, underlying_ok hu, Sem.run_bind, Result.andThen_ok, asInt, asIntOf, Sem.run_pure, hinfo, hw1, hw2]
    simp only [hneg, hneg', hlc, hsmall, decide_false, Bool.or_false, Bool.false_eq_true, if_false, Int.toNat_natCast, run_askRoom, Result.andThen_ok, hs', Sem.run_bind]
    by_cases h0 : c * i.size = 0
    · simp [h0, newRow]
    · simp [h0, newRow, hz']
  split
  · rename_i z hsz hz
    simp only [Option.bind_eq_some_iff] at hz
    obtain ⟨zv, hz1, hz2⟩ := hz
    have hzr : VRel E z zv := ofConst_ok hz2
    split
    case isFalse => trivial
    rename_i hone
    have hcell : zv.cells = #[zv] := Value.cells_one (AV.one_ok hone hzr)
    have hr := hrun zv hz1
    rw [hsz, Nat.mul_one, hcell] at hr
    have harr : (Array.range c).map ((if c = 0 then #[] else #[zv])[· % (if c = 0 then (#[] : Array Value) else #[zv]).size]!) = Array.replicate c zv := by
      apply Array.ext
      · simp
      · intro j h1 h2
        simp at h1
        have : ¬ c = 0 := by omega
        simp [this, Nat.mod_one]
    rw [harr] at hr
    have hle : E.le (E.ext H.next w.heap.size 0) := Env.le_ext (hH.fresh _ (Nat.le_refl _))
    split
    · refine ⟨_, _, _, EffOK.new hH 0 (o := .cells (Array.replicate c zv) e) ⟨(Array.replicate c zv).toList, ?_, by simp⟩, VRel.slice_mk (b := w.heap.size) (by simp [Env.ext]) rfl rfl rfl, hr⟩
      have : ∀ n, VRelL E (repeatL [z] n) (List.replicate n zv) := by
        intro n
        induction n with
        | zero => simp [repeatL, VRelL]
        | succ n ih => simpa [repeatL, List.replicate_succ] using VRelL.cons hzr ih
      simpa using (this c).le hle
    · refine ⟨_, _, _, EffOK.new hH 0 (o := .cells (Array.replicate c zv) e) ⟨_, rfl, by simp, fun j hj => ?_⟩, VRel.slice_mk (b := w.heap.size) (by simp [Env.ext]) rfl rfl rfl, hr⟩
      simpa [Tr.get_nil] using replicate_rel (hzr.le hle) c j hj
  · rename_i n z hz hne
    simp only [Option.bind_eq_some_iff] at hz
    obtain ⟨zv, hz1, hz2⟩ := hz
    have hzr : VRel E z zv := ofConst_ok hz2
    split
    case isFalse => trivial
    rename_i hcond
    have hcells := AV.cells_ok hzr (fun j => ofConst_notRaw hz2 j)
    have hsz : zv.cells.size = i.size := by rw [← hcond.1, ← hcells.length]; simp
    have hr := hrun zv hz1
    have hle : E.le (E.ext H.next w.heap.size 0) := Env.le_ext (hH.fresh _ (Nat.le_refl _))
    have hrel := repeatL_ok hcells c
    have key : VRelL E (repeatL z.cells c) ((Array.range (c * i.size)).map ((if c * i.size = 0 then #[] else zv.cells)[· % (if c * i.size = 0 then (#[] : Array Value) else zv.cells).size]!)).toList := by
      by_cases h0 : c * i.size = 0
      · have hc0 : c = 0 := by
          rcases Nat.mul_eq_zero.1 h0 with h | h
          · exact h
          · exact absurd h hcond.2
        have e0 : Array.range (c * i.size) = #[] := by rw [h0]; simp
        rw [Array.toList_map, e0, hc0]
        simp only [repeatL, VRelL, List.map_nil]
      · simp only [h0, if_false]
        rw [hsz] at hrel ⊢
        exact hrel
    generalize (Array.range (c * i.size)).map ((if c * i.size = 0 then #[] else zv.cells)[· % (if c * i.size = 0 then (#[] : Array Value) else zv.cells).size]!) = arr at key hr
    exact ⟨_, _, _, EffOK.new hH 0 (o := .cells arr e) ⟨arr.toList, key.le hle, by simp⟩, VRel.slice_mk (b := w.heap.size) (by simp [Env.ext]) rfl rfl rfl, hr⟩
  · trivial

end Go.Ev
