/- Ev, part E: how the evaluator's memory lies in the model's, and what loads, stores and new blocks do. -/
import Derived.Test.YtgbdokemijlgeaaEvD
import Derived.Laws.Sem
import Derived.Laws.World
set_option linter.unusedVariables false
namespace Go.Ev

/-! ## relations -/
def TRel (E : Env) (tm : Tr AV) (size : Nat) (tv : Array Value) : Prop :=
  tv.size = size ∧ ∀ t, t < size → ∃ v, tv[t]? = some v ∧ VRel E ((tm.get t).getD undefA) v
def DRel (E : Env) : ADef → Deferred → Prop
  | .collected id, d => ∃ b, E.loc id = some b ∧ d = { target := .collected b, args := #[] }
  | .call f args, d => ∃ vs, VRelL E args vs ∧ d = { target := .fn (.func f) #[], args := vs.toArray }
def DRelL (E : Env) : List ADef → List Deferred → Prop
  | [], ds => ds = []
  | a :: as, ds => ∃ d r, DRel E a d ∧ DRelL E as r ∧ ds = d :: r
def BRel (E : Env) (id : Nat) : AB → Obj → Prop
  | .cells cs e, o => ∃ vs, VRelL E cs vs ∧ o = .cells vs.toArray e (0, 0)
  | .rep n z ov e, o => ∃ vs : Array Value, o = .cells vs e (0, 0) ∧ vs.size = n ∧ ∀ i, i < n → ∃ v, vs[i]? = some v ∧ VRel E ((ov.get i).getD z) v
  | .opn cs e size, o => ∃ vs rest, VRelL E cs vs ∧ o = .cells (vs ++ rest).toArray e (0, 0) ∧ E.cap id * size ≤ (vs ++ rest).length
  | .loop st p fn tmps size params assign body ds, o => ∃ tv d, TRel E tmps size tv ∧ E.loc ds = some d ∧
      o = .loop { state := st, pending := p, fn, tmps := tv, params, assign, body, defers := d }
  | .deferred none, o => o = .deferred none
  | .deferred (some l), o => ∃ ds, DRelL E l ds ∧ o = .deferred (some ds)
  | .chan cap buf, o => ∃ vs s r, VRelL E buf vs ∧ o = .chan cap vs.toArray false s r false

structure HRel (E : Env) (H : AHeap) (w : World) : Prop where
  blk : ∀ id b, H.get id = some b → ∃ a o, E.loc id = some a ∧ w.heap[a]? = some o ∧ BRel E id b o
  inj : ∀ i j bi bj a, H.get i = some bi → H.get j = some bj → E.loc i = some a → E.loc j = some a → i = j
  lt : ∀ id a, E.loc id = some a → a < w.heap.size
  fresh : ∀ id, H.next ≤ id → E.loc id = none

def Live (E : Env) (H : AHeap) (a : Nat) : Prop := ∃ id b, H.get id = some b ∧ E.loc id = some a

/-- what a piece of work may do to the rest of the world -/
structure Kept (E : Env) (H : AHeap) (w w' : World) : Prop where
  os : w'.os = w.os
  tape : w'.tape = w.tape
  output : w'.output = w.output
  size : w.heap.size ≤ w'.heap.size
  block : ∀ b, b < w.heap.size → ¬ Live E H b → w'.heap[b]? = w.heap[b]?

theorem TRel.le {E E' : Env} (h : E.le E') {tm : Tr AV} {n : Nat} {tv : Array Value} (ht : TRel E tm n tv) : TRel E' tm n tv :=
  ⟨ht.1, fun t hl => let ⟨v, hv, hr⟩ := ht.2 t hl; ⟨v, hv, hr.le h⟩⟩
theorem DRel.le {E E' : Env} (h : E.le E') {a : ADef} {d : Deferred} (hd : DRel E a d) : DRel E' a d := by
  cases a with
  | collected id => obtain ⟨b, hb, rfl⟩ := hd; exact ⟨b, h.loc _ _ hb, rfl⟩
  | call f args => obtain ⟨vs, hv, rfl⟩ := hd; exact ⟨vs, hv.le h, rfl⟩
theorem DRelL.le {E E' : Env} (h : E.le E') : ∀ {a : List ADef} {d : List Deferred}, DRelL E a d → DRelL E' a d
  | [], d, hd => hd
  | a :: as, d, hd => by
    obtain ⟨x, r, hx, hr, rfl⟩ := hd
    exact ⟨x, r, hx.le h, DRelL.le h hr, rfl⟩
theorem DRelL.append {E : Env} : ∀ {a b : List ADef} {d e : List Deferred}, DRelL E a d → DRelL E b e → DRelL E (a ++ b) (d ++ e)
  | [], b, d, e, h, k => by simp only [DRelL] at h; subst h; exact k
  | x :: xs, b, d, e, h, k => by
    obtain ⟨y, ys, hy, hys, rfl⟩ := h
    exact ⟨y, ys ++ e, hy, DRelL.append hys k, rfl⟩
theorem BRel.le {E E' : Env} (h : E.le E') {id : Nat} {b : AB} {o : Obj} (hid : E.cap id = E'.cap id) (hb : BRel E id b o) : BRel E' id b o := by
  cases b with
  | cells cs e => obtain ⟨vs, hv, rfl⟩ := hb; exact ⟨vs, hv.le h, rfl⟩
  | rep n z ov e =>
    obtain ⟨vs, rfl, hs, hc⟩ := hb
    exact ⟨vs, rfl, hs, fun i hi => let ⟨v, hv, hr⟩ := hc i hi; ⟨v, hv, hr.le h⟩⟩
  | opn cs e size => obtain ⟨vs, rest, hv, rfl, hc⟩ := hb; exact ⟨vs, rest, hv.le h, rfl, by rw [← hid]; exact hc⟩
  | loop st p fn tmps size params assign body ds => obtain ⟨tv, d, ht, hd, rfl⟩ := hb; exact ⟨tv, d, ht.le h, h.loc _ _ hd, rfl⟩
  | deferred c => cases c with
    | none => exact hb
    | some l => obtain ⟨ds, hd, rfl⟩ := hb; exact ⟨ds, hd.le h, rfl⟩
  | chan cap buf => obtain ⟨vs, s, r, hv, rfl⟩ := hb; exact ⟨vs, s, r, hv.le h, rfl⟩

theorem Kept.refl (E : Env) (H : AHeap) (w : World) : Kept E H w w := ⟨rfl, rfl, rfl, Nat.le_refl _, fun _ _ _ => rfl⟩

/-! ## cells of a block -/
theorem add_none (a b n : Nat) : (⟨a, b, none⟩ : Addr).add n = ⟨a, b + n, none⟩ := by
  unfold Addr.add; split
  · rename_i h; subst h; rfl
  · rfl
theorem AB.cell_obj {E : Env} {id : Nat} {b : AB} {o : Obj} {i : Nat} {x : AV} (hb : BRel E id b o) (h : b.cell i = some x) :
    ∃ v, VRel E x v ∧ ∀ (w : World) (a : Nat), w.heap[a]? = some o → w.cell? ⟨a, i, none⟩ = some v ∧ w.frozen? ⟨a, i, none⟩ = false := by
  cases b with
  | cells cs e =>
    obtain ⟨vs, hv, rfl⟩ := hb
    obtain ⟨v, hv1, hv2⟩ := hv.get ((nthA_eq cs i).symm.trans h)
    exact ⟨v, hv2, fun w a ho => ⟨by simp [World.cell?, ho, hv1], by simp [World.frozen?, ho]⟩⟩
  | rep n z ov e =>
    obtain ⟨vs, rfl, hs, hc⟩ := hb
    simp only [AB.cell] at h
    split at h
    · rename_i hi
      obtain ⟨v, hv1, hv2⟩ := hc i hi
      simp at h; subst h
      exact ⟨v, hv2, fun w a ho => ⟨by simp [World.cell?, ho, hv1], by simp [World.frozen?, ho]⟩⟩
    · simp at h
  | opn cs e size =>
    obtain ⟨vs, rest, hv, rfl, hc⟩ := hb
    obtain ⟨v, hv1, hv2⟩ := hv.get ((nthA_eq cs i).symm.trans h)
    have hlt : i < vs.length := (List.getElem?_eq_some_iff.1 hv1).1
    refine ⟨v, hv2, fun w a ho => ⟨?_, by simp [World.frozen?, ho]⟩⟩
    simp [World.cell?, ho]
    rw [List.getElem?_append_left hlt]; exact hv1
  | _ => simp [AB.cell] at h
theorem AB.cell_ok {E : Env} {id : Nat} {b : AB} {o : Obj} {w : World} {a i : Nat} {x : AV} (hb : BRel E id b o) (ho : w.heap[a]? = some o) (h : b.cell i = some x) :
    ∃ v, w.cell? ⟨a, i, none⟩ = some v ∧ VRel E x v ∧ w.frozen? ⟨a, i, none⟩ = false :=
  let ⟨v, hr, hw⟩ := AB.cell_obj hb h; ⟨v, (hw w a ho).1, hr, (hw w a ho).2⟩

/-- a store into a block -/
theorem AB.setCell_ok {E : Env} {id : Nat} {b b' : AB} {o : Obj} {w : World} {a i : Nat} {x : AV} {v : Value} (hb : BRel E id b o) (ho : w.heap[a]? = some o)
    (h : b.setCell i x = some b') (hx : VRel E x v) :
    (∃ u, w.cell? ⟨a, i, none⟩ = some u) ∧ w.frozen? ⟨a, i, none⟩ = false ∧ ∃ o', (w.setCell ⟨a, i, none⟩ v).heap[a]? = some o' ∧ BRel E id b' o' := by
  cases b with
  | cells cs e =>
    obtain ⟨vs, hv, rfl⟩ := hb
    simp only [AB.setCell] at h
    split at h
    · rename_i hi
      simp at h; subst h
      have hlt : i < vs.length := by rw [hv.length]; exact hi
      refine ⟨⟨vs[i], by simp [World.cell?, ho, hlt]⟩, by simp [World.frozen?, ho], .cells (vs.set i v).toArray e (0, 0), ?_, ?_⟩
      · simp [World.setCell, Array.getElem?_modify, ho]
      · exact ⟨_, hv.set i hx, rfl⟩
    · simp at h
  | rep n z ov e =>
    obtain ⟨vs, rfl, hs, hc⟩ := hb
    simp only [AB.setCell] at h
    split at h
    · rename_i hi
      simp at h; subst h
      refine ⟨⟨vs[i]'(by omega), by simp [World.cell?, ho]⟩, by simp [World.frozen?, ho], .cells (vs.setIfInBounds i v) e (0, 0), ?_, ?_⟩
      · simp [World.setCell, Array.getElem?_modify, ho]
      · refine ⟨_, rfl, by simp [hs], fun j hj => ?_⟩
        rw [Tr.get_set]
        by_cases e : j = i
        · subst e
          exact ⟨v, by rw [Array.getElem?_setIfInBounds_self]; simp [hs, hj], by simpa using hx⟩
        · obtain ⟨u, hu, hr⟩ := hc j hj
          exact ⟨u, by rw [Array.getElem?_setIfInBounds_ne (fun h => e h.symm)]; exact hu, by rw [if_neg e]; exact hr⟩
    · simp at h
  | opn cs e size =>
    obtain ⟨vs, rest, hv, rfl, hc⟩ := hb
    simp only [AB.setCell] at h
    split at h
    · rename_i hi
      simp at h; subst h
      have hlt : i < vs.length := by rw [hv.length]; exact hi
      refine ⟨⟨vs[i], ?_⟩, by simp [World.frozen?, ho], .cells (vs.set i v ++ rest).toArray e (0, 0), ?_, ?_⟩
      · simp [World.cell?, ho, List.getElem?_append_left hlt]
      · simp [World.setCell, Array.getElem?_modify, ho, List.set_append_left _ _ hlt]
      · exact ⟨_, rest, hv.set i hx, rfl, by simpa using hc⟩
    · simp at h
  | _ => simp [AB.setCell] at h

theorem AV.one_ok {E : Env} {x : AV} {v : Value} (h : x.one = true) (hv : VRel E x v) : v.oneCell' = true := by
  cases x with
  | agg _ => simp [AV.one] at h
  | tuple _ => simp [AV.one] at h
  | raw _ => simp [AV.one] at h
  | ptr _ _ => simp only [VRel] at hv; obtain ⟨_, _, _, rfl⟩ := hv; rfl
  | slice _ _ _ _ => simp only [VRel] at hv; obtain ⟨_, _, _, rfl⟩ := hv; rfl
  | slack _ _ _ _ => simp only [VRel] at hv; obtain ⟨_, _, _, rfl⟩ := hv; rfl
  | empty _ => simp only [VRel] at hv; obtain ⟨_, _, _, rfl⟩ := hv; rfl
  | map _ => simp only [VRel] at hv; obtain ⟨_, _, rfl⟩ := hv; rfl
  | chan _ => simp only [VRel] at hv; obtain ⟨_, _, rfl⟩ := hv; rfl
  | func _ _ _ => simp only [VRel] at hv; obtain ⟨_, _, _, _, _, rfl⟩ := hv; rfl
  | yieldF _ => simp only [VRel] at hv; obtain ⟨_, _, rfl⟩ := hv; rfl
  | iface _ _ => simp only [VRel] at hv; obtain ⟨_, _, rfl⟩ := hv; rfl
  | _ => simp only [VRel] at hv; subst hv; rfl

theorem run_store_ok {P : Program} {w : World} {a : Addr} {v u : Value} {m : Mode} (hv : v.oneCell' = true) (hc : w.cell? a = some u) (hf : w.frozen? a = false) :
    (store a v m).run P w = .ok () (w.setCell a v) := by
  rw [run_store _ _ _ _ _ hv, hc]; simp [hf]

/-! ## the memory's laws -/
theorem HRel.get_some {E : Env} {H : AHeap} {w : World} (h : HRel E H w) {id : Nat} {b : AB} (hb : H.get id = some b) :
    ∃ a o, E.loc id = some a ∧ w.heap[a]? = some o ∧ BRel E id b o := h.blk id b hb

theorem get_upd (H : AHeap) (id : Nat) (b : AB) (j : Nat) : (H.upd id b).get j = if j = id then some b else H.get j := Tr.get_set _ _ _ _
theorem get_new (H : AHeap) (b : AB) (j : Nat) : (H.new b).get j = if j = H.next then some b else H.get j := Tr.get_set _ _ _ _

/-- one block has turned -/
theorem HRel.upd {E : Env} {H : AHeap} {w w' : World} (h : HRel E H w) {id a : Nat} {b b' : AB} (hb : H.get id = some b) (ha : E.loc id = some a)
    (hs : w'.heap.size = w.heap.size) (ho : ∃ o', w'.heap[a]? = some o' ∧ BRel E id b' o') (hk : ∀ k, k ≠ a → w'.heap[k]? = w.heap[k]?) : HRel E (H.upd id b') w' where
  blk := fun j c hj => by
    rw [get_upd] at hj
    split at hj
    · rename_i e; subst e; simp at hj; subst hj
      obtain ⟨o', ho1, ho2⟩ := ho
      exact ⟨a, o', ha, ho1, ho2⟩
    · rename_i e
      obtain ⟨a', o, h1, h2, h3⟩ := h.blk j c hj
      exact ⟨a', o, h1, by rw [hk a' (fun e' => e (h.inj j id c b a hj hb (e' ▸ h1) ha))]; exact h2, h3⟩
  inj := fun i j bi bj a' hi hj h1 h2 => by
    have get_some : ∀ k bk, (H.upd id b').get k = some bk → ∃ ck, H.get k = some ck := fun k bk hk' => by
      rw [get_upd] at hk'; split at hk'
      · rename_i e; subst e; exact ⟨b, hb⟩
      · exact ⟨bk, hk'⟩
    obtain ⟨ci, hi'⟩ := get_some i bi hi
    obtain ⟨cj, hj'⟩ := get_some j bj hj
    exact h.inj i j ci cj a' hi' hj' h1 h2
  lt := fun j a' hj => by rw [hs]; exact h.lt j a' hj
  fresh := fun j hj => h.fresh j hj

theorem Live.upd {E : Env} {H : AHeap} {id : Nat} {b b' : AB} (hb : H.get id = some b) {a : Nat} (h : Live E (H.upd id b') a) : Live E H a := by
  obtain ⟨j, c, hj, ha⟩ := h
  rw [get_upd] at hj; split at hj
  · rename_i e; subst e; exact ⟨j, b, hb, ha⟩
  · exact ⟨j, c, hj, ha⟩

/-- the environment with one block more -/
def Env.ext (E : Env) (id a : Nat) (cap : Nat) : Env :=
  { E with loc := fun j => if j = id then some a else E.loc j, cap := fun j => if j = id then cap else E.cap j }
theorem Env.le_ext {E : Env} {id a cap : Nat} (h : E.loc id = none) : E.le (E.ext id a cap) where
  loc := fun j b hj => by
    simp only [Env.ext]; split
    · rename_i e; subst e; rw [h] at hj; simp at hj
    · exact hj
  cap := fun j b hj => by
    simp only [Env.ext]; split
    · rename_i e; subst e; rw [h] at hj; simp at hj
    · rfl
  int := rfl
  bool := rfl
  val := rfl

theorem HRel.new {E : Env} {H : AHeap} {w : World} (h : HRel E H w) {b : AB} {o : Obj} (cap : Nat) (hb : BRel (E.ext H.next w.heap.size cap) H.next b o) :
    HRel (E.ext H.next w.heap.size cap) (H.new b) { w with heap := w.heap.push o } := by
  have hle : E.le (E.ext H.next w.heap.size cap) := Env.le_ext (h.fresh _ (Nat.le_refl _))
  have hne : ∀ j c, H.get j = some c → j ≠ H.next := fun j c hj e => by
    obtain ⟨a, _, ha, _⟩ := h.blk j c hj
    rw [h.fresh j (by omega)] at ha; simp at ha
  have hloc : ∀ j, (E.ext H.next w.heap.size cap).loc j = if j = H.next then some w.heap.size else E.loc j := fun _ => rfl
  have old : ∀ j c, (H.new b).get j = some c → j ≠ H.next → H.get j = some c := fun j c hj e => by
    rw [get_new, if_neg e] at hj; exact hj
  refine ⟨fun j c hj => ?_, fun i j bi bj a hi hj h1 h2 => ?_, fun j a hj => ?_, fun j hj => ?_⟩
  · by_cases e : j = H.next
    · subst e
      rw [get_new, if_pos rfl] at hj; simp at hj; subst hj
      exact ⟨w.heap.size, o, by simp [hloc], by simp, hb⟩
    · have hj' := old j c hj e
      obtain ⟨a, o', h1, h2, h3⟩ := h.blk j c hj'
      have hlt := h.lt j a h1
      refine ⟨a, o', hle.loc _ _ h1, ?_, h3.le hle (hle.cap _ _ h1).symm⟩
      rw [Array.getElem?_push, if_neg (by omega)]; exact h2
  · rw [hloc] at h1 h2
    by_cases ei : i = H.next <;> by_cases ej : j = H.next
    · omega
    · rw [if_pos ei] at h1; rw [if_neg ej] at h2
      simp at h1; subst h1
      exact absurd (h.lt j _ h2) (by omega)
    · rw [if_neg ei] at h1; rw [if_pos ej] at h2
      simp at h2; subst h2
      exact absurd (h.lt i _ h1) (by omega)
    · rw [if_neg ei] at h1; rw [if_neg ej] at h2
      exact h.inj i j bi bj a (old i bi hi ei) (old j bj hj ej) h1 h2
  · rw [hloc] at hj
    simp only [Array.size_push]
    split at hj
    · simp at hj; omega
    · have := h.lt j a hj; omega
  · rw [hloc, if_neg (by simp only [AHeap.new] at hj; omega)]
    exact h.fresh j (by simp only [AHeap.new] at hj; omega)

theorem Kept.push (E : Env) (H : AHeap) (w : World) (o : Obj) : Kept E H w { w with heap := w.heap.push o } :=
  ⟨rfl, rfl, rfl, by simp, fun b hb _ => by simp only; rw [Array.getElem?_push, if_neg (by omega)]⟩
theorem Kept.setCell {E : Env} {H : AHeap} (w : World) {a i : Nat} (v : Value) (hl : Live E H a) : Kept E H w (w.setCell ⟨a, i, none⟩ v) :=
  ⟨rfl, rfl, rfl, by simp [World.setCell], fun b hb hn => by
    simp only [World.setCell, Array.getElem?_modify]
    rw [if_neg (fun e => hn (by rw [← e]; exact hl))]⟩
theorem Kept.trans {E : Env} {H : AHeap} {a b c : World} (h : Kept E H a b) (k : Kept E H b c) : Kept E H a c :=
  ⟨k.os.trans h.os, k.tape.trans h.tape, k.output.trans h.output, Nat.le_trans h.size k.size,
    fun i hi hn => (k.block i (Nat.lt_of_lt_of_le hi h.size) hn).trans (h.block i hi hn)⟩
theorem Live.new {E : Env} {H : AHeap} {w : World} (_ : HRel E H w) {b : AB} {cap a : Nat} (hl : Live (E.ext H.next w.heap.size cap) (H.new b) a) : Live E H a ∨ w.heap.size ≤ a := by
  obtain ⟨j, c, hj, ha⟩ := hl
  rw [get_new] at hj
  simp only [Env.ext] at ha
  split at hj
  · rename_i e; rw [if_pos e] at ha; simp at ha; exact .inr (by omega)
  · rename_i e; rw [if_neg e] at ha; exact .inl ⟨j, c, hj, ha⟩

/-! ## loads and stores of several cells -/
theorem loadN_obj {P : Program} {E : Env} {H : AHeap} {id : Nat} {b : AB} {o : Obj} {a : Nat} (hb : BRel E id b o) :
    ∀ (n off i : Nat) (l : List AV), loadN H b (off + i) n = some l →
      ∃ vs, VRelL E l vs ∧ ∀ (w : World) (acc : Array Value), w.heap[a]? = some o → (loadCellsFrom ⟨a, off, none⟩ i n acc).run P w = .ok (acc ++ vs.toArray) w := by
  intro n
  induction n with
  | zero =>
    intro off i l h
    simp [loadN] at h; subst h
    exact ⟨[], VRelL.nil, fun w acc _ => by simp [loadCellsFrom]⟩
  | succ n ih =>
    intro off i l h
    simp only [loadN] at h
    split at h
    · rename_i v hv
      split at h
      · rename_i r hr
        simp at h; subst h
        obtain ⟨u, hru, hu⟩ := AB.cell_obj hb hv
        obtain ⟨us, hus, hrun⟩ := ih off (i + 1) r (by rw [← Nat.add_assoc]; exact hr)
        refine ⟨u :: us, VRelL.cons hru hus, fun w acc ho => ?_⟩
        simp only [loadCellsFrom, add_none, Sem.run_bind, run_load, (hu w a ho).1, Result.andThen_ok, hrun w _ ho]
        simp
      · simp at h
    · simp at h
theorem loadN_ok {P : Program} {E : Env} {H : AHeap} {w : World} {id : Nat} {b : AB} {o : Obj} {a : Nat} (hb : BRel E id b o) (ho : w.heap[a]? = some o)
    (n off i : Nat) (acc : Array Value) (l : List AV) (h : loadN H b (off + i) n = some l) :
      ∃ vs, VRelL E l vs ∧ (loadCellsFrom ⟨a, off, none⟩ i n acc).run P w = .ok (acc ++ vs.toArray) w :=
  let ⟨vs, hr, hw⟩ := loadN_obj (P := P) (a := a) hb n off i l h; ⟨vs, hr, hw w acc ho⟩

theorem storeN_ok {P : Program} {E : Env} {H : AHeap} {id : Nat} {a : Nat} (ha : E.loc id = some a) :
    ∀ (l : List AV) (vs : List Value) (off i : Nat) (b b' : AB) (w : World) (H1 : AHeap), HRel E H1 w → (∀ j, j ≠ id → H1.get j = H.get j) → H1.next = H.next → H1.get id = some b →
      VRelL E l vs → storeN b (off + i) l = some b' →
      ∃ w', (storeCells ⟨a, off, none⟩ vs i).run P w = .ok () w' ∧ HRel E (H1.upd id b') w' ∧ Kept E H1 w w' := by
  intro l
  induction l with
  | nil =>
    intro vs off i b b' w H1 hH _ _ hb hv h
    simp only [VRelL] at hv; subst hv
    simp [storeN] at h; subst h
    obtain ⟨a', o, h1, h2, h3⟩ := hH.blk id b hb
    have e : a' = a := by rw [ha] at h1; simpa using h1.symm
    subst e
    exact ⟨w, by simp [storeCells], hH.upd hb h1 rfl ⟨o, h2, h3⟩ (fun _ _ => rfl), Kept.refl _ _ _⟩
  | cons x xs ih =>
    intro vs off i b b' w H1 hH hold hnext hb hv h
    simp only [VRelL] at hv
    obtain ⟨v, ys, hx, hxs, rfl⟩ := hv
    simp only [storeN] at h
    split at h
    · rename_i hone
      split at h
      · rename_i b1 hb1
        obtain ⟨a', o, h1, h2, h3⟩ := hH.blk id b hb
        have e : a' = a := by rw [ha] at h1; simpa using h1.symm
        subst e
        obtain ⟨⟨u, hu⟩, hf, o', ho', hbr⟩ := AB.setCell_ok h3 h2 hb1 hx
        have hH1 : HRel E (H1.upd id b1) (w.setCell ⟨a', off + i, none⟩ v) :=
          hH.upd hb h1 (by simp [World.setCell]) ⟨o', ho', hbr⟩ (fun k hk => by simp only [World.setCell, Array.getElem?_modify]; rw [if_neg (fun e => hk e.symm)])
        obtain ⟨w', hrun, hH', hK⟩ := ih ys off (i + 1) b1 b' _ (H1.upd id b1) hH1 (fun j hj => by rw [get_upd, if_neg hj]; exact hold j hj) hnext (by rw [get_upd, if_pos rfl]) hxs (by rw [← Nat.add_assoc]; exact h)
        refine ⟨w', ?_, ?_, ?_⟩
        · simp only [storeCells, add_none, Sem.run_bind, run_store_ok (AV.one_ok hone hx) hu hf, Result.andThen_ok, hrun]
        · refine ⟨fun j c hj => ?_, fun i j bi bj a hi hj h1 h2 => ?_, hH'.lt, fun j hj => hH'.fresh j hj⟩
          · rw [get_upd] at hj
            by_cases e : j = id
            · exact hH'.blk j c (by rw [get_upd]; rw [if_pos e] at hj ⊢; exact hj)
            · exact hH'.blk j c (by rw [get_upd, if_neg e, get_upd, if_neg e]; rw [if_neg e] at hj; exact hj)
          · have conv : ∀ k bk, (H1.upd id b').get k = some bk → ∃ ck, ((H1.upd id b1).upd id b').get k = some ck := fun k bk hk => by
              rw [get_upd] at hk ⊢
              by_cases e : k = id
              · rw [if_pos e]; exact ⟨_, rfl⟩
              · rw [if_neg e] at hk ⊢; rw [get_upd, if_neg e]; exact ⟨_, hk⟩
            obtain ⟨ci, hi'⟩ := conv i bi hi
            obtain ⟨cj, hj'⟩ := conv j bj hj
            exact hH'.inj i j ci cj a hi' hj' h1 h2
        · have hl : Live E H1 a' := ⟨id, b, hb, h1⟩
          refine (Kept.setCell w v hl).trans ⟨hK.os, hK.tape, hK.output, hK.size, fun k hk hn => hK.block k hk (fun hl' => hn (Live.upd hb hl'))⟩
      · simp at h
    · simp at h

/-! ## types -/
theorem isAggB_ok {P : Program} {t : TypeId} {b : Bool} {w : World} (h : isAggB P t = some b) : (isAgg t).run P w = .ok b w := by
  unfold isAggB at h
  split at h <;> simp at h <;> subst h <;> simp [isAgg, underlying, *] <;> (split <;> simp_all)
theorem sizeB_ok {P : Program} {t : TypeId} {n : Nat} {w : World} (h : sizeB P t = some n) : (sizeOf t).run P w = .ok n w := by
  unfold sizeB at h
  simp at h
  obtain ⟨i, hi, rfl⟩ := h
  simp [sizeOf, typeInfo, hi]
theorem zeroB_ok {P : Program} {E : Env} {t : TypeId} {z : AV} (h : zeroB P t = some z) : ∃ v, VRel E z v ∧ ∀ w, (zeroValue t).run P w = .ok v w := by
  unfold zeroB at h
  simp only [Option.bind_eq_some_iff] at h
  obtain ⟨v, ⟨i, hi, hz⟩, hv⟩ := h
  exact ⟨v, ofConst_ok hv, fun w => by simp [zeroValue, typeInfo, hi, hz]⟩
theorem underlying_ok {P : Program} {t : TypeId} {d : TypeDesc} {w : World} (h : P.underlying t = some d) : (underlying t).run P w = .ok d w := by
  simp [underlying, h]

theorem AV.cells_one {x : AV} (h : x.one = true) : x.cells = [x] := by cases x <;> simp_all [AV.one, AV.cells]
theorem Value.cells_one {v : Value} (h : v.oneCell' = true) : v.cells = #[v] := by cases v <;> simp_all [Value.oneCell', Value.cells]
theorem AV.cells_ok {E : Env} {x : AV} {v : Value} (h : VRel E x v) (hr : ∀ i, x ≠ .raw i) : VRelL E x.cells v.cells.toList := by
  cases hx : x with
  | agg cs =>
    subst hx
    simp only [VRel] at h
    obtain ⟨vs, hv, rfl⟩ := h
    simpa [AV.cells, Value.cells] using hv
  | tuple cs =>
    subst hx
    simp only [VRel] at h
    obtain ⟨vs, hv, rfl⟩ := h
    have : VRel E (.tuple cs) (.tuple vs.toArray) := by simp only [VRel]; exact ⟨vs, hv, rfl⟩
    exact VRelL.cons this VRelL.nil
  | raw i => exact absurd hx (hr i)
  | _ =>
    rw [← hx]
    have h1 : x.one = true := by rw [hx]; rfl
    rw [AV.cells_one h1, Value.cells_one (AV.one_ok h1 h)]
    exact VRelL.cons h VRelL.nil

theorem loadAt_ok {P : Program} {E : Env} {H : AHeap} {w : World} (hH : HRel E H w) {t : TypeId} {id off a : Nat} {x : AV} (ha : E.loc id = some a) (h : loadAt P H t id off = some x) :
    ∃ v, VRel E x v ∧ (loadVar t ⟨a, off, none⟩).run P w = .ok v w := by
  unfold loadAt at h
  split at h
  · rename_i b hag hb
    split at h
    · rename_i n hn
      simp at h
      obtain ⟨l, hl, rfl⟩ := h
      obtain ⟨a', o, h1, h2, h3⟩ := hH.blk id b hb
      have e : a' = a := by rw [ha] at h1; simpa using h1.symm
      subst e
      obtain ⟨vs, hvs, hrun⟩ := loadN_ok (P := P) (H := H) h3 h2 n off 0 #[] l (by simpa using hl)
      refine ⟨.agg vs.toArray, ?_, ?_⟩
      · simp only [VRel]; exact ⟨vs, hvs, rfl⟩
      · simp [loadVar, isAggB_ok hag, sizeB_ok hn, loadCells, hrun]
    · simp at h
  · rename_i b hag hb
    obtain ⟨a', o, h1, h2, h3⟩ := hH.blk id b hb
    have e : a' = a := by rw [ha] at h1; simpa using h1.symm
    subst e
    obtain ⟨v, hc, hr, _⟩ := AB.cell_ok h3 h2 h
    exact ⟨v, hr, by simp [loadVar, isAggB_ok hag, hc]⟩
  · simp at h

theorem storeAt_ok {P : Program} {E : Env} {H H' : AHeap} {w : World} (hH : HRel E H w) {t : TypeId} {id off a : Nat} {x : AV} {v : Value} (ha : E.loc id = some a) (hx : VRel E x v)
    (hr : ∀ i, x ≠ .raw i) (h : storeAt P H t id off x = some H') :
    ∃ w', (storeVar t ⟨a, off, none⟩ v).run P w = .ok () w' ∧ HRel E H' w' ∧ Kept E H w w' ∧ (∀ k, Live E H' k → Live E H k) ∧ H'.next = H.next := by
  unfold storeAt at h
  split at h
  · rename_i b n hb hn
    split at h
    · rename_i hlen
      simp at h
      obtain ⟨b', hb', rfl⟩ := h
      have hc := AV.cells_ok hx hr
      obtain ⟨w', hrun, hH', hK⟩ := storeN_ok (P := P) (H := H) ha x.cells v.cells.toList off 0 b b' w H hH (fun _ _ => rfl) rfl hb hc (by simpa using hb')
      refine ⟨w', ?_, hH', hK, fun k hk => Live.upd hb hk, rfl⟩
      have : v.cells.size = n := by rw [← hlen, ← hc.length]; simp
      simp [storeVar, sizeB_ok hn, this, hrun]
    · simp at h
  · simp at h

end Go.Ev
