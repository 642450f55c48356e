/- Ev, part N: every operation of the evaluator is the model's. -/
import Derived.Test.YtgbdokemijlgeaaEvM
set_option linter.unusedVariables false
namespace Go.Ev

variable {P : Program} {E : Env} {G : Ctx} {H : AHeap} {w : World}

theorem num_ok {ev : Operand → AV} {ρ : Operand → Value} {o : Option Operand} {r : Option SI} (h : ∀ p, o = some p → VRel E (ev p) (ρ p))
    (hr : numA ev o = some r) : numRel E r (o.map ρ) := by
  cases o with
  | none => simp [numA] at hr; subst hr; rfl
  | some p =>
    simp only [numA] at hr
    have hp := h p rfl
    split at hr
    · rename_i k n hk
      simp at hr; subst hr
      rw [hk] at hp
      exact ⟨k, by simp [VRel.int_inv hp]⟩
    · simp at hr

theorem buildSlice_run {t e : TypeId} {len n : Nat} {pv : Array (Nat × Value)} {zv : Value} {ov : Array Value} (hu : P.underlying t = some (.slice e)) (hs : sizeB P e = some (n + 1))
    (hz : ∀ w, (zeroValue e).run P w = .ok zv w) (hzs : zv.cells.size = n + 1) (hbig : len * (n + 1) ≤ 65536)
    (hf : Instr.fill (fun i => some (i * (n + 1), n + 1)) ((Array.range (len * (n + 1))).map (fun i => zv.cells[i % (n + 1)]!)) pv.toList = some ov) :
    (Instr.buildSlice t len pv).run P w = .ok (.slice (some ⟨w.heap.size, 0, none⟩) len len) { w with heap := w.heap.push (.cells ov e) } := by
  have hb : ¬ (len * (n + 1) > 2 ^ 24) := by omega
  by_cases h0 : len * (n + 1) = 0
  · have e0 : (Array.range (len * (n + 1))).map (fun i => zv.cells[i % (n + 1)]!) = #[] := Array.eq_empty_of_size_eq_zero (by simp [h0])
    have e1 : (Array.range (len * (n + 1))).map (fun i => (#[] : Array Value)[i % (#[] : Array Value).size]!) = #[] := Array.eq_empty_of_size_eq_zero (by simp [h0])
    rw [e0] at hf
    simp only [Instr.buildSlice, Sem.run_bind, underlying_ok hu, Result.andThen_ok, sizeB_ok hs, if_neg hb, Sem.run_pure, if_pos h0, e1, hf, newRow, run_newObj]
  · simp only [Instr.buildSlice, Sem.run_bind, underlying_ok hu, Result.andThen_ok, sizeB_ok hs, if_neg hb, Sem.run_pure, if_neg h0, hz, hzs, hf, newRow, run_newObj]

theorem buildSlice_V (hH : HRel E H w) {ev : Operand → AV} {ρ : Operand → Value} {t : TypeId} {len : Nat} {parts : Array (Nat × Operand)} (hp : ∀ p ∈ parts.toList, VRel E (ev p.2) (ρ p.2)) :
    OutV P E H w (buildSliceA P H t len (parts.toList.map fun p => (p.1, ev p.2))) (Instr.buildSlice t len (parts.map fun (i, x) => (i, ρ x))) := by
  unfold buildSliceA
  split
  · rename_i e hu
    split
    · rename_i n z hsz hz
      split
      · rename_i hc
        split
        · rename_i cs hfill
          obtain ⟨zv, hzr, hzrun⟩ := zeroB_ok (E := E) hz
          have hzc := AV.cells_ok hzr (fun i => zeroB_notRaw hz i)
          have hzs : zv.cells.size = n + 1 := by rw [← hc.2, ← hzc.length]; simp
          have hrep := repeatL_ok hzc len
          rw [hzs] at hrep
          obtain ⟨ov, hov, hrel⟩ := fill_ok (E := E) (pv := (parts.map fun (i, x) => (i, ρ x)).toList) (by simp) (by simpa using parts_ok hp) hrep hfill
          have hle : E.le (E.ext H.next w.heap.size 0) := Env.le_ext (hH.fresh _ (Nat.le_refl _))
          exact ⟨_, _, .slice (some ⟨w.heap.size, 0, none⟩) len len, EffOK.new hH 0 (o := .cells ov e (0, 0)) ⟨ov.toList, hrel.le hle, by simp⟩, VRel.slice_mk (b := w.heap.size) (by simp [Env.ext]) rfl rfl rfl,
            buildSlice_run hu hsz hzrun hzs hc.1 hov⟩
        · trivial
      · trivial
    · trivial
  · trivial

set_option maxHeartbeats 1000000 in
/-- one object, that is no row of cells, has turned -/
theorem set_obj {H : AHeap} (hH : HRel E H w) {id a : Nat} {b b' : AB} {o' : Obj} (hb : H.get id = some b) (ha : E.loc id = some a) (hbr : BRel E id b' o') :
    EffOK E H w E (H.upd id b') { w with heap := w.heap.setIfInBounds a o' } := by
  have hlt := hH.lt id a ha
  refine ⟨Env.le.refl E, hH.upd hb ha (by simp) ⟨o', by simp [hlt], hbr⟩ (fun k hk => by simp only; rw [Array.getElem?_setIfInBounds_ne (fun e => hk e.symm)]), ?_, fun x hx => .inl (Live.upd hb hx), rfl⟩
  exact ⟨rfl, rfl, rfl, by simp, fun k hk hn => by simp only; rw [Array.getElem?_setIfInBounds_ne (fun e => hn (by rw [← e]; exact ⟨id, b, hb, ha⟩))]⟩

theorem EffOK.refl {H : AHeap} (hH : HRel E H w) : EffOK E H w E H w := ⟨Env.le.refl E, hH, Kept.refl _ _ _, fun _ hl => .inl hl, rfl⟩

theorem zeroValue_ok {t : TypeId} {z : AV} (h : zeroB P t = some z) : ∃ zv, (zeroValue t).run P w = .ok zv w ∧ VRel E z zv := by
  unfold zeroB at h
  simp only [Option.bind_eq_some_iff] at h
  obtain ⟨zv, ⟨i, hi, hz⟩, hc⟩ := h
  exact ⟨zv, by simp [zeroValue, typeInfo, hi, hz], ofConst_ok hc⟩

theorem chan_blk {H : AHeap} (hH : HRel E H w) {id cap : Nat} {buf : List AV} {b : Nat} (hb : E.loc id = some b) (hget : H.get id = some (.chan cap buf)) :
    ∃ us s r, VRelL E buf us ∧ w.heap[b]? = some (.chan cap us.toArray false s r false) := by
  obtain ⟨a, ob, ha, hob, hbr⟩ := hH.blk id _ hget
  have e : a = b := by rw [hb] at ha; simpa using ha.symm
  subst e
  obtain ⟨us, s, r, hus, rfl⟩ := hbr
  exact ⟨us, s, r, hus, hob⟩

theorem select_OK (hH : HRel E H w) {c : AV} {snd : Option AV} {elem : TypeId} {cv : Value} {sv : Option Value} {σ : Sem Next} (hc : VRel E c cv)
    (hs : match snd, sv with | none, none => True | some x, some y => VRel E x y | _, _ => False)
    (hσ : ∀ z, (zeroValue elem).run P w = .ok z w → σ.run P w = .ok (.comm #[{ chan := cv, send := sv, zero := z }] false .select) w) : OutOK P E H w (selectA P H c snd elem) σ := by
  unfold selectA
  split
  · rename_i id z hz
    simp only [VRel] at hc
    obtain ⟨b, hb, rfl⟩ := hc
    obtain ⟨zv, hzr, hzv⟩ := zeroValue_ok (w := w) (E := E) hz
    have hrun := hσ zv hzr
    split
    · rename_i cap buf hget
      obtain ⟨us, s, r, hus, hob⟩ := chan_blk hH hb hget
      cases snd with
      | none =>
        cases sv with
        | some y => exact hs.elim
        | none =>
          cases buf with
          | nil =>
            simp only [VRelL] at hus
            subst hus
            refine ⟨E, w, EffOK.refl hH, .inr (.inr ⟨.tuple #[goInt (-1), .bool false, zv], ?_, _, _, _, hrun, fun f cs es hst => ?_⟩)⟩
            · simp only [VRel]; exact ⟨_, VRelL.cons (VRel.int_mk _ rfl) (VRelL.cons (VRel.bool_mk rfl) (VRelL.cons hzv VRelL.nil)), rfl⟩
            · exact Conc.step_lone_select_default hst hob
          | cons v rest =>
            simp only [VRelL] at hus
            obtain ⟨u, ur, hu, hur, rfl⟩ := hus
            have heff := set_obj (b' := .chan cap rest) (o' := .chan cap ((u :: ur).toArray.extract 1 (u :: ur).toArray.size) false s (r + 1) false) hH hget hb ⟨ur, s, r + 1, hur, by simp⟩
            refine ⟨E, _, heff, .inr (.inr ⟨.tuple #[goInt 0, .bool true, (u :: ur).toArray.getD 0 undef], ?_, _, _, _, hrun, fun f cs es hst => ?_⟩)⟩
            · simp only [VRel]; exact ⟨_, VRelL.cons (VRel.int_mk _ rfl) (VRelL.cons (VRel.bool_mk rfl) (VRelL.cons (by simpa using hu) VRelL.nil)), rfl⟩
            · exact Conc.step_lone_select_recv_buf hst hob (by simp)
      | some x =>
        cases sv with
        | none => exact hs.elim
        | some y =>
          simp only
          split
          · trivial
          · split
            · rename_i hlt
              have hl := hus.length
              have heff := set_obj (b' := .chan cap (buf ++ [x])) (o' := .chan cap (us.toArray.push y) false (s + 1) r false) hH hget hb ⟨us ++ [y], s + 1, r, hus.append (VRelL.cons hs VRelL.nil), by simp⟩
              refine ⟨E, _, heff, .inr (.inr ⟨.tuple #[goInt 0, .bool false], ?_, _, _, _, hrun, fun f cs es hst => ?_⟩)⟩
              · simp only [VRel]; exact ⟨_, VRelL.cons (VRel.int_mk _ rfl) (VRelL.cons (VRel.bool_mk rfl) VRelL.nil), rfl⟩
              · exact Conc.step_lone_select_send_room hst hob (by simpa [hl] using hlt)
            · rename_i hlt
              have hl := hus.length
              refine ⟨E, w, EffOK.refl hH, .inr (.inr ⟨.tuple #[goInt (-1), .bool false], ?_, _, _, _, hrun, fun f cs es hst => ?_⟩)⟩
              · simp only [VRel]; exact ⟨_, VRelL.cons (VRel.int_mk _ rfl) (VRelL.cons (VRel.bool_mk rfl) VRelL.nil), rfl⟩
              · exact Conc.step_lone_select_send_full hst hob (by simp [hl] at hlt ⊢; omega)
    · trivial
  · trivial

theorem recv_OK (hH : HRel E H w) {c : AV} {t : TypeId} {ok : Bool} {cv : Value} {σ : Sem Next} (hc : VRel E c cv)
    (hσ : ∀ d e z, P.underlying t = some (.chan d e) → (zeroValue e).run P w = .ok z w → σ.run P w = .ok (.comm #[{ chan := cv, send := none, zero := z }] true (.recv ok)) w) : OutOK P E H w (recvA P H t c ok) σ := by
  unfold recvA
  split
  · rename_i d e hu
    split
    · rename_i id z hz
      simp only [VRel] at hc
      obtain ⟨b, hb, rfl⟩ := hc
      obtain ⟨zv, hzr, hzv⟩ := zeroValue_ok (w := w) (E := E) hz
      have hrun := hσ d e zv hu hzr
      split
      · rename_i cap v rest hget
        obtain ⟨us, s, r, hus, hob⟩ := chan_blk hH hb hget
        simp only [VRelL] at hus
        obtain ⟨u, ur, hu', hur, rfl⟩ := hus
        have heff := set_obj (b' := .chan cap rest) (o' := .chan cap ((u :: ur).toArray.extract 1 (u :: ur).toArray.size) false s (r + 1) false) hH hget hb ⟨ur, s, r + 1, hur, by simp⟩
        refine ⟨E, _, heff, .inr (.inr ⟨Conc.got ok ((u :: ur).toArray.getD 0 undef) true, ?_, _, _, _, hrun, fun f cs es hst => ?_⟩)⟩
        · cases ok with
          | false => simpa [Conc.got] using hu'
          | true =>
            simp only [VRel, if_true, Conc.got]
            exact ⟨_, VRelL.cons (by simpa using hu') (VRelL.cons (VRel.bool_mk rfl) VRelL.nil), rfl⟩
        · exact Conc.step_lone_recv_buf ok hst hob (by simp)
      · trivial
    · trivial
  · trivial

theorem makeChan_V (hH : HRel E H w) {t : TypeId} {n : AV} {nv : Value} (hn : VRel E n nv) : OutV P E H w (makeChanA P H t n) (Instr.makeChan t nv) := by
  unfold makeChanA
  split
  · rename_i d e k n hu
    have hn := VRel.int_inv hn
    simp only [SI.den] at hn
    split
    · rename_i i hi
      split
      · rename_i hc
        have hE := EffOK.new hH 0 (b := .chan n []) (o := .chan n #[] false 0 0 false) ⟨[], 0, 0, VRelL.nil, rfl⟩
        refine ⟨_, _, .chan (some w.heap.size), hE, by simp only [VRel]; exact ⟨w.heap.size, by simp [Env.ext], rfl⟩, ?_⟩
        obtain ⟨h1, h2⟩ := hc
        have h3 : ¬ ((n : Int) < 0 ∨ (n : Int) > IntKind.i64.max ∨ (i.bytes : Int) * (n : Int) > 2 ^ 48 - 112) := by
          intro h
          rcases h with h | h | h
          · omega
          · omega
          · have h4 : ((i.bytes * n : Nat) : Int) ≤ ((2 ^ 48 - 112 : Nat) : Int) := Int.ofNat_le.2 h2
            have h5 : ((i.bytes * n : Nat) : Int) = (i.bytes : Int) * (n : Int) := Int.natCast_mul _ _
            have h6 : ((2 ^ 48 - 112 : Nat) : Int) = (2 : Int) ^ 48 - 112 := by decide
            rw [h5, h6] at h4
            exact absurd h4 (Int.not_le.2 h)
        have hti : (typeInfo e).run P w = .ok i w := by simp [typeInfo, hi]
        have hai : (asInt nv).run P w = .ok (n : Int) w := by rw [hn]; simp [asInt, asIntOf]
        simp only [Instr.makeChan, Sem.run_bind, hai, Result.andThen_ok, underlying_ok hu, hti, if_neg h3, Sem.run_pure, run_newObj, Int.toNat_natCast]
      · trivial
    · trivial
  · trivial

theorem opA_ok (hH : HRel E H w) (hG : G.Ok E) {o : Oper} {ev : Operand → AV} {ρ : Operand → Value} (he : ∀ x ∈ o.op.operands, VRel E (ev x) (ρ x)) :
    OutOK P E H w (opA P G H ev o.op) (execOp ρ o) := by
  obtain ⟨dst, op, ty, pos, after, guard⟩ := o
  simp only at he ⊢
  cases op with
  | move x => exact ⟨ρ x, he x (by simp [Op.operands]), by simp [execOp]⟩
  | assign x => exact ⟨ρ x, he x (by simp [Op.operands]), by simp [execOp]⟩
  | pick c a b =>
    have hc := he c (by simp [Op.operands])
    have ha := he a (by simp [Op.operands])
    have hb := he b (by simp [Op.operands])
    simp only [opA]
    split
    · rename_i t ht
      rw [ht] at hc
      simp only [VRel] at hc
      have h : OutV P E H w (withB G t (.val (ev a)) (.val (ev b))) (do pure (if ← asBool (ρ c) then ρ a else ρ b)) :=
        withB_V hG (fun h => ⟨ρ a, ha, by simp [hc, asBool, h]⟩) (fun h => ⟨ρ b, hb, by simp [hc, asBool, h]⟩)
      have e2 : execOp ρ ⟨dst, .pick c a b, ty, pos, after, guard⟩ = (do pure (Next.value (← (do pure (if ← asBool (ρ c) then ρ a else ρ b) : Sem Value))) : Sem Next) := by simp [execOp]
      rw [e2]; exact OutV.ok h
    · trivial
  | alloc e =>
    simp only [opA]
    split
    · rename_i z hz
      obtain ⟨zv, hzr, hzrun⟩ := zeroB_ok (E := E) hz
      have := OutV.ok (alloc_V (P := P) (e := e) hH (AV.cells_ok hzr (fun i => zeroB_notRaw hz i)))
      have e2 : (execOp ρ ⟨dst, .alloc e, ty, pos, after, guard⟩).run P w = (do pure (Next.value (← (do pure (.pointer (some (← newRow e zv.cells))) : Sem Value))) : Sem Next).run P w := by
        simp [execOp, Instr.alloc, hzrun, newVar]
      revert this
      simp only [allocA, OutOK, CommTo, e2]; exact id
    · trivial
  | box e x =>
    have hx := he x (by simp [Op.operands])
    simp only [opA]
    split
    · trivial
    · rename_i hraw
      exact OutV.ok (alloc_V (P := P) (e := e) (vs := (ρ x).cells) hH (AV.cells_ok hx (fun i h => hraw i h)))
  | build t parts =>
    have hp : ∀ p ∈ parts.toList, VRel E (ev p.2) (ρ p.2) := fun p hp => he p.2 (by simp only [Op.operands]; simp; exact ⟨p.1, by simpa using hp⟩)
    simp only [opA]
    split
    · rename_i zv fs hz hu
      split
      · rename_i z pl hz2 hpl
        split
        · rename_i cs hfill
          have hzr : VRel E z zv := ofConst_ok hz2
          obtain ⟨ov, hov, hrel⟩ := fill_ok (E := E) (by simp) (parts_ok hp) (AV.cells_ok hzr (fun i => ofConst_notRaw hz2 i)) hfill
          simp only [Option.bind_eq_some_iff] at hz
          obtain ⟨it, hit, hzz⟩ := hz
          have hb : P.built t (parts.map fun (i, x) => (i, ρ x)).toList = some ov := by
            unfold placesA at hpl
            simp only [Program.built, hit, hu, hzz, hpl]
            simpa using hov
          refine OutV.ok (s := Instr.build t (parts.map fun (i, x) => (i, ρ x))) (r := .val (.agg cs)) ⟨.agg ov, ?_, run_build w t _ ov hb⟩
          simp only [VRel]; exact ⟨ov.toList, hrel, by simp⟩
        · trivial
      · trivial
    · rename_i zv n e hz hu
      split
      · rename_i z sz hz2 hsz
        split
        · rename_i cs hfill
          have hzr : VRel E z zv := ofConst_ok hz2
          obtain ⟨ov, hov, hrel⟩ := fill_ok (E := E) (by simp) (parts_ok hp) (AV.cells_ok hzr (fun i => ofConst_notRaw hz2 i)) hfill
          simp only [Option.bind_eq_some_iff] at hz
          obtain ⟨it, hit, hzz⟩ := hz
          obtain ⟨ie, hie, rfl⟩ : ∃ ie, P.info? e = some ie ∧ ie.size = sz := by simpa [sizeB] using hsz
          have hb : P.built t (parts.map fun (i, x) => (i, ρ x)).toList = some ov := by
            simp only [Program.built, hit, hu, hzz, hie]
            simpa using hov
          refine OutV.ok (s := Instr.build t (parts.map fun (i, x) => (i, ρ x))) (r := .val (.agg cs)) ⟨.agg ov, ?_, run_build w t _ ov hb⟩
          simp only [VRel]; exact ⟨ov.toList, hrel, by simp⟩
        · trivial
      · trivial
    · trivial
  | buildSlice t len parts =>
    have hp : ∀ p ∈ parts.toList, VRel E (ev p.2) (ρ p.2) := fun p hp => he p.2 (by simp only [Op.operands]; simp; exact ⟨p.1, by simpa using hp⟩)
    exact OutV.ok (buildSlice_V hH hp)
  | load t a =>
    have ha := he a (by simp [Op.operands])
    simp only [opA]
    split
    · rename_i id off hev
      rw [hev] at ha
      simp only [VRel] at ha
      obtain ⟨b, hb, _, ha⟩ := ha
      split
      · rename_i v hv
        obtain ⟨v', hr, hrun⟩ := loadAt_ok (P := P) hH hb hv
        refine OutV.ok (s := Instr.loadAt t (ρ a)) (r := .val v) ⟨v', hr, ?_⟩
        simp [Instr.loadAt, ha, Instr.sureAddr, SI.den, hrun]
      · trivial
    · trivial
  | store t a x =>
    have ha := he a (by simp [Op.operands])
    have hx := he x (by simp [Op.operands])
    simp only [opA]
    split
    · rename_i id off hev
      rw [hev] at ha
      simp only [VRel] at ha
      obtain ⟨b, hb, _, ha⟩ := ha
      split
      · trivial
      · rename_i hraw
        split
        · rename_i H' hs
          obtain ⟨w', hrun, hH', hK, hL, _⟩ := storeAt_ok (P := P) hH hb hx (fun i e => by rw [e] at hraw; simp [AV.isRaw] at hraw) hs
          refine ⟨E, w', ⟨Env.le.refl E, hH', hK, fun k hk => .inl (hL k hk), rfl⟩, .inr (.inl ⟨VRel.undef, ?_⟩)⟩
          simp [execOp, Instr.storeAt, ha, Instr.sureAddr, SI.den, hrun]
        · trivial
    · trivial
  | nilCheck x =>
    have hx := he x (by simp [Op.operands])
    simp only [opA]
    split
    · rename_i id off hev
      rw [hev] at hx
      have hx' := hx
      simp only [VRel] at hx
      obtain ⟨b, _, _, hx⟩ := hx
      exact ⟨ρ x, hx', by simp [execOp, hx]⟩
    · rename_i t v hev
      rw [hev] at hx
      have hx' := hx
      simp only [VRel] at hx
      obtain ⟨b, _, hx⟩ := hx
      exact ⟨ρ x, hx', by simp [execOp, hx]⟩
    · rename_i f a b hev
      rw [hev] at hx
      have hx' := hx
      simp only [VRel] at hx
      obtain ⟨_, _, _, _, _, hx⟩ := hx
      exact ⟨ρ x, hx', by simp [execOp, hx]⟩
    · rename_i l hev
      rw [hev] at hx
      have hx' := hx
      simp only [VRel] at hx
      obtain ⟨_, _, hx⟩ := hx
      exact ⟨ρ x, hx', by simp [execOp, hx]⟩
    · trivial
  | binOp o t x y yt =>
    have hx := he x (by simp [Op.operands])
    have hy := he y (by simp [Op.operands])
    simp only [opA]
    split
    · rename_i k a k' b hxe hye
      rw [hxe] at hx; rw [hye] at hy
      have hx := VRel.int_inv hx
      have hy := VRel.int_inv hy
      have hg : (eqGuard o t x y (ρ x) (ρ y)).run P w = .ok () w := eqGuard_ok (by rw [hx]; simp) (by rw [hx]; simp)
      have fin : ∀ {r : AOut}, OutV P E H w r (binOp o t (.int k (a.den E)) (.int k' (b.den E))) → OutOK P E H w r (execOp ρ ⟨dst, .binOp o t x y yt, ty, pos, after, guard⟩) := by
        intro r hr
        refine OutV.ok (s := do eqGuard o t x y (ρ x) (ρ y); binOp o t (ρ x) (ρ y)) ?_
        revert hr
        have e : (do eqGuard o t x y (ρ x) (ρ y); binOp o t (ρ x) (ρ y) : Sem Value).run P w = (binOp o t (.int k (a.den E)) (.int k' (b.den E))).run P w := by
          rw [hx, hy] at hg
          simp [hg, hx, hy]
        cases r <;> simp only [OutV, e] <;> exact id
      split
      · exact fin (shift_V (.inl rfl) t)
      · exact fin (shift_V (.inr rfl) t)
      · split
        · rename_i hk; subst hk; exact fin (arith_V hG t)
        · trivial
    · split
      · split
        · rename_i s hs
          obtain ⟨h1, h2, h3, h4, h5, h6, h7⟩ := eqlA_ok (P := P) hH hx hy hs
          refine OutV.ok (s := do eqGuard .eql t x y (ρ x) (ρ y); binOp .eql t (ρ x) (ρ y)) (r := .val (.bool s)) ⟨_, VRel.bool_mk rfl, ?_⟩
          simp [eqGuard_ok (P := P) (w := w) (op := .eql) (t := t) h2 h3, (binOp_other h1 h4 h5 h6 h7).1]
        · trivial
      · split
        · rename_i s hs
          obtain ⟨h1, h2, h3, h4, h5, h6, h7⟩ := eqlA_ok (P := P) hH hx hy hs
          refine OutV.ok (s := do eqGuard .neq t x y (ρ x) (ρ y); binOp .neq t (ρ x) (ρ y)) (r := .val (.bool (mkNot s))) ⟨_, VRel.bool_mk (mkNot_den s), ?_⟩
          simp [eqGuard_ok (P := P) (w := w) (op := .neq) (t := t) h2 h3, (binOp_other h1 h4 h5 h6 h7).2]
        · trivial
      · trivial
  | unOp o t x => exact OutV.ok (unop_V hG (he x (by simp [Op.operands])))
  | convert s d x =>
    have hx := he x (by simp [Op.operands])
    simp only [opA]
    split
    · rename_i d1 k k' n hs hd hev
      rw [hev] at hx
      have hx := VRel.int_inv hx
      refine OutV.ok (s := convert s d (ρ x)) (r := .val (.int k (mkWrap G k n))) ⟨.int k (k.wrap (n.den E)), VRel.int_mk k (mkWrap_den hG k n), ?_⟩
      rw [hx]
      simp [convert, underlying_ok hs, underlying_ok hd, Conv.intToInt]
    · trivial
  | makeInterface t x =>
    have hx := he x (by simp [Op.operands])
    simp only [opA]
    split
    · trivial
    · rename_i d hni hu
      refine OutV.ok (s := Instr.makeInterface t (ρ x)) (r := .val (.iface t (ev x))) ⟨.iface t (ρ x), by simp only [VRel]; exact ⟨_, hx, rfl⟩, ?_⟩
      cases d <;> first | (exact (hni _ rfl).elim) | (simp [Instr.makeInterface, underlying_ok hu])
    · trivial
  | makeFunc fn first captured =>
    simp only [opA]
    split
    · trivial
    · rename_i hny
      refine OutV.ok (s := Instr.makeFunc fn (first.map ρ) (captured.map ρ)) (r := .val (.func fn (first.toList.map ev) (captured.toList.map ev))) ⟨.func fn (first.map ρ) (captured.map ρ), ?_, by simp [Instr.makeFunc]⟩
      simp only [VRel]
      exact ⟨_, _, fun l h => hny l h, map_ok (fun x hx => he x (by simp [Op.operands, hx])), map_ok (fun x hx => he x (by simp [Op.operands, hx])), by rw [Array.toArray_toList, Array.toArray_toList]⟩
  | makeSlice t l c => exact OutV.ok (makeSlice_V hH (he l (by simp [Op.operands])) (he c (by simp [Op.operands])))
  | slice t x lo hi mx =>
    have hx := he x (by simp [Op.operands])
    simp only [opA]
    split
    · rename_i l h m hl hh hm
      refine OutV.ok (slice_V hG hx (num_ok (fun p hp => he p ?_) hl) (num_ok (fun p hp => he p ?_) hh) (num_ok (fun p hp => he p ?_) hm))
      · subst hp; simp [Op.operands]
      · subst hp; simp [Op.operands]
      · subst hp; simp [Op.operands]
    · trivial
  | fieldAddr s x f =>
    have hx := he x (by simp [Op.operands])
    simp only [opA]
    split
    · rename_i fs id off hu hev
      rw [hev] at hx
      simp only [VRel] at hx
      obtain ⟨b, hb, ho, hx⟩ := hx
      split
      · rename_i fd hfd
        split
        · rename_i n hn
          refine OutV.ok (s := Instr.fieldAt s (ρ x) f) (r := .val (.ptr id (mkAdd off (.lit fd.offset)))) ⟨.pointer (some ⟨b, (off.den E).toNat + fd.offset, none⟩), ?_, ?_⟩
          · simp only [VRel]
            refine ⟨b, hb, ?_, ?_⟩
            · rw [mkAdd_den]; simp only [SI.den]; omega
            · rw [mkAdd_den]; simp only [SI.den]; congr 3; omega
          · rw [hx]
            simp [Instr.fieldAt, underlying_ok hu, hfd, Instr.sureAddr, fieldPlace, sizeB_ok hn, add_none]
        · trivial
      · trivial
    · trivial
  | field t x f =>
    have hx := he x (by simp [Op.operands])
    simp only [opA]
    split
    · rename_i fs cs hu hev
      rw [hev] at hx
      simp only [VRel] at hx
      obtain ⟨vs, hvs, hx⟩ := hx
      split
      · rename_i fd hfd
        have := OutV.ok (part_V (P := P) (H := H) (w := w) (t := fd.type) (off := fd.offset) hvs)
        have e2 : (execOp ρ ⟨dst, .field t x f, ty, pos, after, guard⟩).run P w = (do pure (Next.value (← part fd.type vs.toArray fd.offset)) : Sem Next).run P w := by
          simp [execOp, Instr.field, underlying_ok hu, hfd, hx, asAgg]
        revert this
        cases partA P fd.type cs fd.offset <;> simp only [OutOK, CommTo, e2] <;> exact id
      · trivial
    · trivial
  | indexAddr t x i =>
    have hx := he x (by simp [Op.operands])
    have hi := he i (by simp [Op.operands])
    simp only [opA]
    split
    · rename_i k n hev
      rw [hev] at hi
      have hi := VRel.int_inv hi
      have := OutV.ok (indexAddr_V (P := P) (H := H) (w := w) (t := t) (k := k) (i := n) hG hx)
      have e2 : execOp ρ ⟨dst, .indexAddr t x i, ty, pos, after, guard⟩ = (do pure (Next.value (← Instr.indexAt t (ρ x) (.int k (n.den E)))) : Sem Next) := by
        simp [execOp, hi]
      rw [e2]; exact this
    · trivial
  | index t x i =>
    have hx := he x (by simp [Op.operands])
    have hi := he i (by simp [Op.operands])
    simp only [opA]
    split
    · rename_i len e cs k n hu hevx hevi
      rw [hevx] at hx
      rw [hevi] at hi
      have hi := VRel.int_inv hi
      simp only [VRel] at hx
      obtain ⟨vs, hvs, hx⟩ := hx
      split
      · rename_i s hs
        split
        · rename_i hlt
          have := OutV.ok (part_V (P := P) (H := H) (w := w) (t := e) (off := n * s) hvs)
          have e2 : (execOp ρ ⟨dst, .index t x i, ty, pos, after, guard⟩).run P w = (do pure (Next.value (← part e vs.toArray (n * s))) : Sem Next).run P w := by
            simp [execOp, Instr.index, underlying_ok hu, hx, hi, asIntOf, SI.den, hlt, sizeB_ok hs]
          revert this
          cases partA P e cs (n * s) <;> simp only [OutOK, CommTo, e2] <;> exact id
        · trivial
      · trivial
    · trivial
  | extract t i =>
    have hx := he t (by simp [Op.operands])
    simp only [opA]
    split
    · rename_i vs hev
      rw [hev] at hx
      simp only [VRel] at hx
      obtain ⟨us, hus, hx⟩ := hx
      split
      · rename_i v hv
        obtain ⟨u, hu, hr⟩ := hus.get hv
        exact ⟨u, hr, by simp [execOp, Instr.extract, hx, hu]⟩
      · trivial
    · trivial
  | typeAssert x xt a ok => exact OutV.ok (assert_V (he x (by simp [Op.operands])))
  | call c =>
    have hargs : VRelL E (c.args.toList.map ev) (c.args.map ρ).toList := map_ok (fun x hx => he x (by simp [Op.operands, Call.operands, hx]))
    simp only [opA]
    split
    · rename_i f hf
      have hfv : VRel E (ev f) (ρ f) := he f (by simp [Op.operands, Call.operands, hf])
      have := invoke_OK (P := P) hH hG hfv hargs
      have e2 : execOp ρ ⟨dst, .call c, ty, pos, after, guard⟩ = (do let d ← Deferred.ofValue (ρ f) (c.args.map ρ).toList.toArray; invoke d.target d.args) := by
        rw [Array.toArray_toList]; simp [execOp, resolve, hf]
      rw [e2]; exact this
    · rename_i r name hf
      have hfv : VRel E (ev r) (ρ r) := he r (by simp [Op.operands, Call.operands, hf])
      have := method_OK (P := P) (name := name) hH hG hfv hargs
      have e2 : execOp ρ ⟨dst, .call c, ty, pos, after, guard⟩ = callMethod (ρ r) name (c.args.map ρ).toList.toArray := by
        rw [Array.toArray_toList]
        have e3 : (#[ρ r] ++ c.args.map ρ)[0]? = some (ρ r) := by simp [Array.getElem?_append]
        have e4 : (#[ρ r] ++ c.args.map ρ).extract 1 (#[ρ r] ++ c.args.map ρ).size = c.args.map ρ := by simp [Array.extract_append]
        simp only [execOp, resolve, hf, pure_bind, invoke, e3, e4]
      rw [e2]; exact this
    · rename_i b hf
      have := builtin_OK (P := P) (b := b) (ats := c.argTypes) (ty := ty) (cs := c.args.map fun | .const _ => true | _ => false) hH hG hargs
      have e2 : execOp ρ ⟨dst, .call c, ty, pos, after, guard⟩ = builtin b c.argTypes ty (c.args.map fun | .const _ => true | _ => false) (c.args.map ρ).toList.toArray := by
        rw [Array.toArray_toList]; simp [execOp, resolve, hf, invoke]; rfl
      rw [e2]; exact this
  | makeChan t n => exact OutV.ok (makeChan_V hH (he n (by simp [Op.operands])))
  | recv t c ok =>
    refine recv_OK hH (he c (by simp [Op.operands])) (fun d e z hu hz => ?_)
    simp [execOp, underlying_ok hu, hz]
  | select cs blk =>
    cases blk with
    | true => trivial
    | false =>
      simp only [opA]
      split
      · rename_i c hc
        have hcs : cs = #[c] := by cases cs; simp at hc; subst hc; rfl
        subst hcs
        refine select_OK (cv := ρ c.chan) (sv := c.send.map ρ) hH (he c.chan (by simp [Op.operands])) ?_ (fun z hz => ?_)
        · cases hs : c.send with
          | none => trivial
          | some x => exact he x (by simp [Op.operands, hs])
        · simp [execOp, hz]
      · trivial
  | _ => trivial

end Go.Ev
