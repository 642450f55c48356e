/- Ev, part Y: a whole call. -/
import Derived.Test.YtgfedkfokjobpaaEvX
import Derived.Below
import Derived.ChangeSame
set_option linter.unusedVariables false
namespace Go.Ev
open Go.RowKit

/-- what a call from the ground is found to do: the evaluator's word, of the machine -/
theorem calls_of {P : Program} (hP : P.follows .mixedOrders = true) {E : Env} {G : Ctx} {ok : AV → AHeap → Bool} {n : Nat} {g : FuncId} {args : List AV} {vs : List Value} {c : Cfg} (w : World)
    (hG : G.Ok E) (hE : ∀ i, E.loc i = none) (hv : VRelL E args vs) (hs : start P g args H0 = some c) (h : explore P ok n G c = true) :
    Calls P g vs.toArray w fun e w' => ∃ E' v H v', e = .returned v' ∧ ok v H = true ∧ E.le E' ∧ VRel E' v v' ∧ HRel E' H w' ∧ Below w.heap.size w w' := by
  intro cs
  unfold start at hs
  cases hen : enterFrame P g args false with
  | none => rw [hen] at hs; simp at hs
  | some fr =>
    rw [hen] at hs
    simp at hs
    subst hs
    obtain ⟨h1, h2, h3, _⟩ := enter_ok (w := w) hv hen
    have hget : ∀ id, AHeap.get H0 id = none := fun id => by simp [AHeap.get, H0, Tr.get_nil]
    have hM : MRel P { A := fun _ => False, cs, fn := g, w } E { fr, callers := [], heap := H0 } (Frame.enter P g vs.toArray .normal) [] w := by
      refine ⟨h1, h2, rfl, ⟨?_, ?_, ?_, ?_⟩, ⟨rfl, rfl, rfl, Nat.le_refl _, fun _ _ _ => rfl⟩, ?_, ?_⟩
      · intro id b hb; simp only at hb; rw [hget] at hb; simp at hb
      · intro i j bi bj a hb; simp only at hb; rw [hget] at hb; simp at hb
      · intro id a ha; rw [hE] at ha; simp at ha
      · intro id _; exact hE id
      · intro a ha; obtain ⟨id, b, hb, _⟩ := ha; simp only at hb; rw [hget] at hb; simp at hb
      · simp [botFn, h3]
    obtain ⟨E', v, H, f, w', v', e1, e2, e3, e4, e5, e6, e7, e8⟩ := explore_ok hP n hG hM h
    exact ⟨.returned v', w', f, ⟨E', v, H, v', rfl, e1, e2, e6, e7, ⟨e8.os, e8.tape, e8.output, e8.size, fun b hb => e8.block b hb (fun x => x)⟩⟩, e3, e4, e5⟩

def E0 (ints : List Int) (bools : List Bool) : Env := { loc := fun _ => none, cap := fun _ => 0, int := fun i => ints.getD i 0, bool := fun i => bools.getD i false, val := fun _ => undef }

theorem isTrueA_ok {E : Env} {v : AV} {H : AHeap} {v' : Value} (h : isTrueA v H = true) (hv : VRel E v v') : v' = .bool true := by
  unfold isTrueA at h
  split at h
  · simpa [VRel, SB.den] using hv
  · simp at h

/-- a call of numbers and truths returns true -/
theorem calls_true {P : Program} (hP : P.follows .mixedOrders = true) {G : Ctx} {n : Nat} {g : FuncId} {args : List AV} {vs : List Value} {c : Cfg} (ints : List Int) (bools : List Bool) (w : World)
    (hG : G.Ok (E0 ints bools)) (hv : VRelL (E0 ints bools) args vs) (hs : start P g args H0 = some c) (h : explore P isTrueA n G c = true) :
    Calls P g vs.toArray w fun e w' => e = .returned (.bool true) ∧ Below w.heap.size w w' :=
  (calls_of hP w hG (fun _ => rfl) hv hs h).mono fun e w' ⟨E', v, H, v', h1, h2, _, h3, _, h4⟩ => by
    rw [isTrueA_ok h2 h3] at h1; exact ⟨h1, h4⟩

theorem calls_closed {P : Program} (hP : P.follows .mixedOrders = true) {n : Nat} {g : FuncId} (h : runClosed P g n = true) (w : World) :
    Calls P g #[] w fun e w' => e = .returned (.bool true) ∧ Below w.heap.size w w' := by
  unfold runClosed at h
  split at h
  · rename_i c hc
    exact calls_true hP [] [] w (G := G0) (vs := []) ⟨by simp [G0], by simp [G0]⟩ VRelL.nil hc h
  · simp at h

section
open Go.ChangeShapes Go.WideShapes
variable {H : Type} {enc : TypeId × Value → H} {P : Program}
/-- the row's end, where nothing old has turned -/
theorem post_below {f : Func} {s : ChangeSpec} {apart fresh handsOn : Bool} {W W' : World} {args : Array Value} {v : Value} {ds gs : List (DataW H)} {before pa pv : List MemPlace}
    (hW : DataW.Whole enc P f.params.toList s.vars apart W args.toList ds gs before)
    (hres : ∀ (b : Nat) (sp : Nat → Bool) (hd : Bool), DataW.TrodAll enc P W' b sp hd f.resultTypes.toList (v.resultList f.resultTypes.size) (s.fn H (ds ++ gs)).results [])
    (hargs : ∀ sp : Nat → Bool, (∀ p ∈ before, sp p.block = true) → DataW.TrodAll enc P W' 0 sp true f.params.toList args.toList (s.fn H (ds ++ gs)).args pa)
    (hvars : ∀ sp : Nat → Bool, (∀ p ∈ before, sp p.block = true) → DataW.TrodVars enc P W' sp s.vars (s.fn H (ds ++ gs)).vars pv)
    (hb : Below W.heap.size W W') : s.post enc P f apart fresh handsOn false W args v W' := by
  have hold : ∀ p ∈ before, (fun b => decide (b < W.heap.size)) p.block = true := fun p hp => by simpa using hW.lt p hp
  exact ⟨ds, gs, before, [], pa, pv, hW, hres _ _ _, hargs _ hold, hvars _ hold, hb.frame _, fun h => by simp at h⟩
end

end Go.Ev
