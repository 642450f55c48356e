/- Ev, part K: append, whole. -/
import Derived.Test.YtgbdokemijlgeaaEvJ
set_option linter.unusedVariables false
namespace Go.Ev

variable {P : Program} {E : Env} {G : Ctx} {H : AHeap} {w : World}

/-- how a slice's value looks, and its capacity -/
theorem lenOfA_inv {s : AV} {v : Value} {n : Nat} (hv : VRel E s v) (hn : lenOfA s = some n) : ∃ base c, v = .slice base n c := by
  unfold lenOfA at hn
  split at hn
  · simp at hn; subst hn; simp only [VRel] at hv; subst hv; exact ⟨none, 0, rfl⟩
  · simp at hn; subst hn
    simp only [VRel] at hv
    obtain ⟨b, _, _, rfl⟩ := hv
    exact ⟨_, _, rfl⟩
  · simp at hn; subst hn; simp only [VRel] at hv; obtain ⟨b, _, _, rfl⟩ := hv; exact ⟨_, _, rfl⟩
  · simp at hn; subst hn; simp only [VRel] at hv; obtain ⟨a, c, _, rfl⟩ := hv; exact ⟨_, _, rfl⟩
  · simp at hn

theorem EffOK.grown (hH : HRel E H w) {cs : List AV} {vs rest : List Value} {e : TypeId} {size cap : Nat} (h : VRelL E cs vs) (hc : cap * size ≤ (vs ++ rest).length) :
    EffOK E H w (E.ext H.next w.heap.size cap) (H.new (.opn cs e size)) (w.drew.alloc (.cells (vs ++ rest).toArray e)) := by
  have hle : E.le (E.ext H.next w.heap.size cap) := Env.le_ext (hH.fresh _ (Nat.le_refl _))
  have := EffOK.new (w := w.drew) (hH.drawn _) cap (b := .opn cs e size) (o := .cells (vs ++ rest).toArray e (0, 0)) ⟨vs, rest, h.le hle, rfl, by simpa [Env.ext] using hc⟩
  exact ⟨this.le, this.rel, ⟨this.kept.os, this.kept.tape, this.kept.output, this.kept.size, this.kept.block⟩, this.live, rfl⟩

theorem VRel.slack_mk {id b skip size len cap : Nat} (hb : E.loc id = some b) (hc : E.cap id = cap) (hl : skip + len ≤ cap) :
    VRel E (.slack id skip size len) (.slice (some ⟨b, skip * size, none⟩) len (cap - skip)) := by
  simp only [VRel]; exact ⟨b, hb, by omega, by rw [hc]⟩

theorem HRel.sub {H1 H2 : AHeap} (hs : ∀ j b, H2.get j = some b → H1.get j = some b) (hn : H2.next = H1.next) (h : HRel E H1 w) : HRel E H2 w :=
  ⟨fun j b hj => h.blk j b (hs j b hj), fun i j bi bj a hi hj => h.inj i j bi bj a (hs i bi hi) (hs j bj hj), h.lt, fun j hj => h.fresh j (by rw [← hn]; exact hj)⟩
theorem Live.sub {H1 H2 : AHeap} (hs : ∀ j b, H2.get j = some b → H1.get j = some b) {a : Nat} (h : Live E H2 a) : Live E H1 a :=
  let ⟨j, b, hj, ha⟩ := h; ⟨j, b, hs j b hj, ha⟩

theorem loadN_len {b : AB} : ∀ {n off : Nat} {l : List AV}, loadN H b off n = some l → l.length = n := by
  intro n
  induction n with
  | zero => intro off l h; simp [loadN] at h; subst h; rfl
  | succ n ih =>
    intro off l h
    simp only [loadN] at h
    split at h
    · split at h
      · rename_i r hr
        simp at h; subst h
        simp [ih hr]
      · simp at h
    · simp at h
theorem sliceCells_len {size n : Nat} {s : AV} {l : List AV} (hn : lenOfA s = some n) (h : sliceCells H size s = some l) : l.length = n * size := by
  unfold sliceCells at h
  split at h
  · simp at h; subst h; simp [lenOfA] at hn; subst hn; simp
  · simp [lenOfA] at hn; subst hn
    split at h
    · exact loadN_len h
    · simp at h
  · simp [lenOfA] at hn; subst hn
    split at h
    · split at h
      · exact loadN_len h
      · simp at h
    · simp at h
  · simp at h; subst h; simp [lenOfA] at hn; subst hn; simp
  · simp at h

theorem append_V (hH : HRel E H w) {argTypes : Array TypeId} {args : List AV} {vs : List Value} {ty : TypeId} (hv : VRelL E args vs) :
    OutV P E H w (appendA P H argTypes args) (Builtin.append_ argTypes ty vs.toArray) := by
  unfold appendA
  split
  case h_2 => trivial
  rename_i st xt s x h1 h2
  simp only [VRelL] at hv
  obtain ⟨sv, _, hs, ⟨xv, _, hx, rfl, rfl⟩, rfl⟩ := hv
  split
  case h_2 => trivial
  rename_i e e2 u1 u2
  split
  case h_2 => trivial
  rename_i i hi
  split
  case h_2 => trivial
  rename_i n m hn hm
  split
  case h_2 => trivial
  rename_i old new hold hnew
  split
  · trivial
  rename_i hcond
  have hb : i.bytes ≠ 0 := fun h => hcond (.inl h)
  have hb2 : i.bytes ≤ 4096 := Nat.not_lt.1 fun h => hcond (.inr (.inl h))
  have hbig : n + m ≤ 1048576 := Nat.not_lt.1 fun h => hcond (.inr (.inr (.inl h)))
  have hzs : i.zero.map (·.cells.size) = some i.size := Decidable.not_not.1 fun h => hcond (.inr (.inr (.inr (.inl h))))
  have hone : new.all AV.one = true := by
    rcases Bool.eq_false_or_eq_true (new.all AV.one) with h | h
    · exact h
    · exact absurd h fun h => hcond (.inr (.inr (.inr (.inr h))))
  obtain ⟨zv, hz, hzc⟩ : ∃ zv, i.zero = some zv ∧ zv.cells.size = i.size := by
    cases h : i.zero with
    | none => simp [h] at hzs
    | some z => exact ⟨z, rfl, by simpa [h] using hzs⟩
  have hsz : sizeB P e = some i.size := by simp [sizeB, hi]
  obtain ⟨base, c, rfl⟩ := lenOfA_inv hs hn
  obtain ⟨ov, hov, hfo, _⟩ := sliceCells_ok (P := P) hH hs hn hold
  obtain ⟨nv, hnv, hfn, hlen⟩ := sliceCells_ok (P := P) hH hx hm hnew
  have hovl : ov.length = n * i.size := by rw [hov.length]; exact sliceCells_len hn hold
  have hnvl : nv.length = m * i.size := by rw [hnv.length]; exact sliceCells_len hm hnew
  have hones := all_one hnv hone
  have hfw := hfn w rfl
  have grown : ∀ (hlt : c < n + m), OutV P E H w (.eff (.slack H.next 0 i.size (n + m)) (H.new (.opn (old ++ new) e i.size))) (Builtin.append_ argTypes ty #[.slice base n c, xv]) := by
    intro hlt
    obtain ⟨c', rest, hc', hrest, hrun⟩ := append_grows (ty := ty) h1 h2 u1 u2 hi hz hb hb2 hbig hlen (hfn w.drew rfl) (hfo w.drew rfl) hlt
    have ha : ov.toArray ++ nv.toArray ++ rest = (ov ++ nv ++ rest.toList).toArray := by simp
    rw [ha] at hrun
    have hlen' : c' * i.size ≤ (ov ++ nv ++ rest.toList).length := by
      simp only [List.length_append, Array.length_toList, hovl, hnvl, hrest, hzc, ← Nat.add_mul]
      exact Nat.mul_le_mul_right _ (by omega)
    refine ⟨_, _, _, EffOK.grown hH (hov.append hnv) hlen', ?_, hrun⟩
    have := VRel.slack_mk (E := E.ext H.next w.heap.size c') (id := H.next) (b := w.heap.size) (skip := 0) (size := i.size) (len := n + m) (cap := c') (by simp [Env.ext]) (by simp [Env.ext]) (by omega)
    simpa using this
  split
  · -- nothing is added
    rename_i hm0
    subst hm0
    have hnv0 : nv = [] := List.eq_nil_of_length_eq_zero (by simpa using hnvl)
    subst hnv0
    have fits : ∀ (hle : n ≤ c), OutV P E H w (.val s) (Builtin.append_ argTypes ty #[.slice base n c, xv]) := by
      intro hle
      exact ⟨_, hs, by simpa using append_fits (ty := ty) h1 h2 u1 u2 hsz hlen hfw (by omega) (fun a _ => by simp [storeCells]) (fun _ => rfl)⟩
    split
    · rename_i cap
      split
      · rename_i hle
        refine fits ?_
        simp only [VRel] at hs
        obtain ⟨b, _, _, hs⟩ := hs
        simp [SI.den] at hs
        omega
      · trivial
    · trivial
    · rename_i q1 q2
      refine fits ?_
      cases s <;> try (simp [lenOfA] at hn; done)
      · simp only [VRel] at hs; simp at hs; omega
      · exact absurd rfl (q2 _ _ _ _)
      · simp only [VRel] at hs
        obtain ⟨b, _, hle, hs⟩ := hs
        simp at hs; omega
      · simp only [VRel] at hs
        obtain ⟨a, c1, _, hs⟩ := hs
        simp at hs; omega
  · rename_i hm0
    simp only
    split
    · -- nil
      simp only [VRel] at hs
      simp at hs
      exact grown (by omega)
    · -- empty
      simp only [VRel] at hs
      obtain ⟨a, c1, hc1, hs⟩ := hs
      simp at hs hc1
      exact grown (by omega)
    · -- a slice whose capacity is known
      rename_i id off len' cap
      simp only [VRel] at hs
      obtain ⟨b, hbl, ho, hs⟩ := hs
      simp [SI.den] at hs
      obtain ⟨rfl, hn', hc'⟩ := hs
      split
      · rename_i hle
        split
        case h_2 => trivial
        rename_i ab hab
        split
        case h_2 => trivial
        rename_i ab' hab'
        obtain ⟨w', hrun, hH', hK⟩ := storeN_ok (P := P) (H := H) hbl new nv (off + n * i.size) 0 ab ab' w H hH (fun _ _ => rfl) rfl hab hnv (by simpa using hab')
        refine ⟨E, w', _, ⟨Env.le.refl E, hH', hK, fun k hk => .inl (Live.upd hab hk), rfl⟩, ?_, append_fits (ty := ty) (w' := w') h1 h2 u1 u2 hsz hlen hfw (by omega) (fun a ha => ?_) (fun h => by simp at h)⟩
        · rw [hc']
          exact VRel.slice_mk hbl (by simp [SI.den]) (by simp [SI.den]; omega) (by simp [SI.den])
        · simp at ha; subst ha
          rw [add_none]; simpa using hrun
      · rename_i hle
        exact grown (by omega)
    · -- slack
      rename_i id size0 len0
      split
      case h_2 => trivial
      rename_i cs e' size' hopen
      split
      case isFalse => trivial
      rename_i hc3
      obtain ⟨hcl, he, hsz'⟩ := hc3
      simp only [VRel] at hs
      obtain ⟨b, hbl, hle0, hs⟩ := hs
      simp at hs
      obtain ⟨hbase, hn', hc'⟩ := hs
      have hcs : cs = old := by
        simp only [sliceCells] at hold
        split at hold
        · rw [hopen] at hold
          simp only [Nat.zero_mul] at hold
          rw [← hn', loadN_open (n * i.size) 0 (by omega)] at hold
          simpa using hold
        · simp at hold
      by_cases hle : n + m ≤ c
      · obtain ⟨b', o, k1, k2, k3⟩ := hH.blk id _ hopen
        have eb : b' = b := by rw [hbl] at k1; simpa using k1.symm
        subst eb
        obtain ⟨vs0, rest0, hvs0, rfl, hcap⟩ := k3
        have hl0 : vs0.length = n * i.size := by rw [hvs0.length, hcl]
        have hroom : nv.length ≤ rest0.length := by
          have : (n + m) * i.size ≤ c * i.size := Nat.mul_le_mul_right _ hle
          rw [Nat.add_mul] at this
          rw [hsz', ← hc'] at hcap
          simp only [List.length_append] at hcap
          omega
        obtain ⟨w', hrun, q1, q2, q3, q4, q5, q6⟩ := storeSpare (P := P) (off := n * i.size) nv vs0 rest0 w 0 (by omega) k2 hroom hones
        have hget : ∀ j, AHeap.get { m := (H.m.put id none).set H.next (.opn (old ++ new) e i.size), next := H.next + 1 } j =
            if j = H.next then some (.opn (old ++ new) e i.size) else if j = id then none else H.get j := by
          intro j
          show ((H.m.put id none).set H.next (.opn (old ++ new) e i.size)).get j = _
          rw [Tr.get_set, Tr.get_put]; rfl
        have hle' : E.le (E.ext H.next b' (E.cap id)) := Env.le_ext (hH.fresh _ (Nat.le_refl _))
        have hloc : ∀ j, (E.ext H.next b' (E.cap id)).loc j = if j = H.next then some b' else E.loc j := fun _ => rfl
        have hlive : Live E H b' := ⟨id, _, hopen, hbl⟩
        refine ⟨E.ext H.next b' (E.cap id), w', .slice base (n + m) c, ⟨hle', ⟨?_, ?_, ?_, ?_⟩, ⟨q4, q5, q6, by omega, ?_⟩, ?_, rfl⟩, ?_, ?_⟩
        · intro j bk hj
          rw [hget] at hj
          split at hj
          · rename_i ej
            simp at hj; subst hj
            refine ⟨b', _, by rw [hloc, if_pos ej], q1, vs0 ++ nv, rest0.drop nv.length, ?_, by rw [he], ?_⟩
            · rw [← hcs]; exact (hvs0.append hnv).le hle'
            · subst ej
              simp only [Env.ext, if_pos]
              rw [hsz'] at hcap
              simp only [List.length_append, List.length_drop] at hcap ⊢
              omega
          · rename_i ej
            split at hj
            · simp at hj
            · rename_i ej2
              obtain ⟨a, o, r1, r2, r3⟩ := hH.blk j bk hj
              refine ⟨a, o, hle'.loc _ _ r1, ?_, r3.le hle' (hle'.cap _ _ r1).symm⟩
              rw [q3 a (fun ea => ej2 (hH.inj j id bk _ a hj hopen r1 (by rw [ea]; exact hbl)))]
              exact r2
        · intro j1 j2 b1 b2 a g1 g2 l1 l2
          rw [hget] at g1 g2
          rw [hloc] at l1 l2
          by_cases e1 : j1 = H.next <;> by_cases e2 : j2 = H.next
          · omega
          · rw [if_pos e1] at l1
            rw [if_neg e2] at l2 g2
            split at g2
            · simp at g2
            · rename_i ej2
              simp at l1; subst l1
              exact absurd (hH.inj j2 id _ _ _ g2 hopen l2 hbl) ej2
          · rw [if_pos e2] at l2
            rw [if_neg e1] at l1 g1
            split at g1
            · simp at g1
            · rename_i ej1
              simp at l2; subst l2
              exact absurd (hH.inj j1 id _ _ _ g1 hopen l1 hbl) ej1
          · rw [if_neg e1] at l1 g1
            rw [if_neg e2] at l2 g2
            split at g1
            · simp at g1
            · split at g2
              · simp at g2
              · exact hH.inj j1 j2 _ _ a g1 g2 l1 l2
        · intro j a l1
          rw [hloc] at l1
          rw [q2]
          split at l1
          · simp at l1; subst l1; exact hH.lt id _ hbl
          · exact hH.lt j a l1
        · intro j hj
          rw [hloc, if_neg (by simp only at hj; omega)]
          exact hH.fresh j (by simp only at hj; omega)
        · intro k hk hnl
          exact q3 k (fun ek => hnl (by rw [ek]; exact hlive))
        · rintro a ⟨j, bk, hj, ha⟩
          rw [hget] at hj
          rw [hloc] at ha
          split at hj
          · rename_i ej
            rw [if_pos ej] at ha
            simp at ha; subst ha
            exact .inl hlive
          · rename_i ej
            rw [if_neg ej] at ha
            split at hj
            · simp at hj
            · exact .inl ⟨j, bk, hj, ha⟩
        · have := VRel.slack_mk (E := E.ext H.next b' (E.cap id)) (id := H.next) (b := b') (skip := 0) (size := i.size) (len := n + m) (cap := E.cap id) (by simp [Env.ext]) (by simp [Env.ext]) (by omega)
          rw [hbase, hc']
          simpa using this
        · refine append_fits (ty := ty) (w' := w') h1 h2 u1 u2 hsz hlen hfw hle (fun a ha => ?_) (fun h => by rw [hbase] at h; simp at h)
          rw [hbase] at ha
          simp at ha; subst ha
          rw [add_none]; simpa using hrun
      · obtain ⟨E1, w1, v1, k1, k2, k3⟩ := grown (by omega)
        have sub : ∀ j bk, AHeap.get { m := (H.m.put id none).set H.next (.opn (old ++ new) e i.size), next := H.next + 1 } j = some bk → (H.new (.opn (old ++ new) e i.size)).get j = some bk := by
          intro j bk hj
          have : ((H.m.put id none).set H.next (.opn (old ++ new) e i.size)).get j = some bk := hj
          rw [Tr.get_set, Tr.get_put] at this
          rw [get_new]
          split at this
          · rename_i ej; rw [if_pos ej]; exact this
          · rename_i ej
            rw [if_neg ej]
            split at this
            · simp at this
            · exact this
        exact ⟨E1, w1, v1, ⟨k1.le, HRel.sub sub rfl k1.rel, k1.kept, fun a ha => k1.live a (Live.sub sub ha), rfl⟩, k2, k3⟩
    · trivial

end Go.Ev
