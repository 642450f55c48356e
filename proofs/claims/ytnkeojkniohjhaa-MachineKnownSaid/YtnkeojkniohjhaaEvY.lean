/- Ev, part Y: the same steps, in a form that the kernel carries out quicker. -/
import Derived.Test.YtnkeojkniohjhaaEvX
set_option linter.unusedVariables false
namespace Go.Ev
noncomputable section

def okRead (size : Nat) (x : Operand) : Bool :=
  @Operand.rec (fun _ => Nat → Bool) (fun t size => Nat.blt t size) (fun v _ => (ofConst v).isSome) (fun _ _ => false) (fun _ _ => true) x size
def allRead (size : Nat) (l : List Operand) : Bool := @List.rec Operand (fun _ => Nat → Bool) (fun _ => true) (fun x _ ih size => @Bool.rec (fun _ => Bool) false (ih size) (okRead size x)) l size

def guardF (size : Nat) (ops : Array Oper) (o : Oper) : Bool :=
  @Option.rec (Nat × Bool) (fun _ => Bool) true (fun p => match (ops[p.1]?).bind (·.dst) with
    | some d => Nat.blt d size
    | none => true) o.guard
def readsOkF (size : Nat) (ops : Array Oper) (o : Oper) : Bool := @Bool.rec (fun _ => Bool) false (guardF size ops o) (allRead size o.op.operands.toList)

def runOpF (P : Program) (G : Ctx) (H : AHeap) (size : Nat) (ops : Array Oper) (tm : Tr AV) (o : Oper) : AOut :=
  @Bool.rec (fun _ => AOut) (.fail "operand") (@Option.rec (Nat × Bool) (fun _ => AOut) (opA P G H (evalA tm) o.op) (fun _ => wantedA G ops tm o (opA P G H (evalA tm) o.op) (.val undefA)) o.guard) (readsOkF size ops o)

/-- the operation at hand is over, by parts -/
def finishF (P : Program) (G : Ctx) (H : AHeap) (fr : AFrame) (v : AV) : Option AFrame :=
  match fr with
  | ⟨fn, tmps, size, reg, todo, defers, ret, dfd, round⟩ => match reg with
    | .seq ops i rest => match rest with
      | o :: rest' => match o.dst with
        | none => some ⟨fn, tmps, size, .seq ops (i + 1) rest', todo, defers, ret, dfd, round⟩
        | some d => @Bool.rec (fun _ => Option AFrame) none (some ⟨fn, tmps.set d v, size, .seq ops (i + 1) rest', todo, defers, ret, dfd, round⟩) (Nat.blt d size)
      | [] => none
    | .any ops undone pre => match undone with
      | (i, o) :: u => match putDst size tmps o.dst v with
        | some tm => match pre.filter fun p => !(maskOf ops i).testBit p.1 with
          | pre' => @Bool.rec (fun _ => Option AFrame) none (some ⟨fn, tm, size, .any ops u pre', todo, defers, ret, dfd, round⟩) (checkPre P G H size ops tm pre')
        | none => none
      | [] => none
    | .none => match todo with
      | .inRangeFunc l :: k => some ⟨fn, tmps, size, .none, .endRangeFunc l :: k, defers, ret, dfd, round⟩
      | .beginRound :: k => some ⟨fn, tmps, size, .none, k, defers, ret, dfd, round⟩
      | _ => none

theorem natBlt (a b : Nat) : Nat.blt a b = decide (a < b) := Bool.eq_iff_iff.2 (by simp [Nat.blt_eq])

theorem okRead_eq (size : Nat) (x : Operand) : okRead size x = okIn size x := by
  cases x with
  | tmp t =>
    show Nat.blt t size = (true && decide (t < size))
    rw [Bool.true_and]
    exact natBlt _ _
  | const v => simp [okIn, okOperand]; rfl
  | global g => rfl
  | func f => rfl
theorem allRead_eq (size : Nat) : ∀ l : List Operand, allRead size l = l.all (okIn size)
  | [] => rfl
  | x :: l => by
    have ih := allRead_eq size l
    have e : allRead size (x :: l) = @Bool.rec (fun _ => Bool) false (allRead size l) (okRead size x) := rfl
    rw [e, ih, okRead_eq, List.all_cons]
    cases okIn size x <;> rfl
theorem reads_all (size : Nat) : ∀ l : List Operand, l.all (okIn size) = (l.all okOperand && (l.filterMap fun | .tmp t => some t | _ => none).all fun t => decide (t < size))
  | [] => rfl
  | x :: l => by
    rw [List.all_cons, List.all_cons, reads_all size l]
    cases x <;> simp [okIn, okOperand, Bool.and_assoc, Bool.and_left_comm]
theorem readsOkF_eq {size : Nat} {ops : Array Oper} {o : Oper} : readsOkF size ops o = readsOk size ops o := by
  have h1 : o.op.operands.all okOperand = o.op.operands.toList.all okOperand := by simp
  have h2 : guardF size ops o = ((match o.guard with | some (g, _) => ((ops[g]?).bind (·.dst)).toList | none => []).all fun t => decide (t < size)) := by
    unfold guardF
    cases o.guard with
    | none => rfl
    | some p =>
      obtain ⟨j, b⟩ := p
      simp only
      cases (ops[j]?).bind (·.dst) with
      | none => rfl
      | some d => simp [natBlt]
  unfold readsOkF readsOk readsOf Oper.looksAt
  rw [List.all_append, h1, allRead_eq, reads_all, h2]
  generalize o.op.operands.toList.all okOperand = a
  generalize (o.op.operands.toList.filterMap fun | .tmp t => some t | _ => none).all (fun t => decide (t < size)) = b
  cases a <;> cases b <;> rfl

theorem runOpF_eq {P : Program} {G : Ctx} {H : AHeap} {size : Nat} {ops : Array Oper} {tm : Tr AV} {o : Oper} : runOpF P G H size ops tm o = runOp P G H size ops tm o := by
  unfold runOpF runOp
  rw [readsOkF_eq]
  cases readsOk size ops o with
  | false => rfl
  | true =>
    simp only [if_true]
    cases h : o.guard with
    | none => simp [wantedA, h]
    | some p => rfl

theorem finishF_eq {P : Program} {G : Ctx} {H : AHeap} {fr : AFrame} {v : AV} : finishF P G H fr v = finishA P G H fr v := by
  obtain ⟨fn, tmps, size, reg, todo, defers, ret, dfd, round⟩ := fr
  unfold finishF finishA
  cases reg with
  | none => cases todo with
    | nil => rfl
    | cons x k => cases x <;> rfl
  | seq ops i rest =>
    cases rest with
    | nil => rfl
    | cons o r =>
      simp only [putDst]
      cases o.dst with
      | none => rfl
      | some d =>
        simp only [natBlt]
        by_cases h : d < size
        · simp [h]
        · simp [h]
  | any ops undone pre =>
    cases undone with
    | nil => rfl
    | cons p u =>
      obtain ⟨i, o⟩ := p
      simp only
      cases putDst size tmps o.dst v with
      | none => rfl
      | some tm =>
        simp only
        cases checkPre P G H size ops tm (pre.filter fun p => !(maskOf ops i).testBit p.1) <;> rfl

/-! ## one step, by parts -/
def seqF (P : Program) (G : Ctx) (callers : List AFrame) (heap : AHeap) (fn : FuncId) (tmps : Tr AV) (size : Nat) (ops : Array Oper) (i : Nat) (rest : List Oper) (todo : List AItem) (defers : List ADef) (dfd : Bool) (round : Option Nat) : Out :=
  @List.rec Oper (fun _ => Out) (.next ⟨⟨fn, tmps, size, .none, todo, defers, false, dfd, round⟩, callers, heap⟩)
    (fun o rest' _ => @AOut.rec (fun _ => Out)
      (fun v => @Option.rec Tmp (fun _ => Out) (.next ⟨⟨fn, tmps, size, .seq ops (i + 1) rest', todo, defers, false, dfd, round⟩, callers, heap⟩)
        (fun d => @Bool.rec (fun _ => Out) (.fail "finish") (.next ⟨⟨fn, tmps.set d v, size, .seq ops (i + 1) rest', todo, defers, false, dfd, round⟩, callers, heap⟩) (Nat.blt d size)) o.dst)
      (fun v H => @Option.rec Tmp (fun _ => Out) (.next ⟨⟨fn, tmps, size, .seq ops (i + 1) rest', todo, defers, false, dfd, round⟩, callers, H⟩)
        (fun d => @Bool.rec (fun _ => Out) (.fail "finish") (.next ⟨⟨fn, tmps.set d v, size, .seq ops (i + 1) rest', todo, defers, false, dfd, round⟩, callers, H⟩) (Nat.blt d size)) o.dst)
      (fun f args => @Option.rec AFrame (fun _ => Out) (.fail "enter") (fun g => .next ⟨g, ⟨fn, tmps, size, .seq ops i (o :: rest'), todo, defers, false, dfd, round⟩ :: callers, heap⟩) (enterFrame P f args false))
      (fun l args => applyOut P G ⟨⟨fn, tmps, size, .seq ops i (o :: rest'), todo, defers, false, dfd, round⟩, callers, heap⟩ ⟨fn, tmps, size, .seq ops i (o :: rest'), todo, defers, false, dfd, round⟩ (.round l args))
      (fun b => .fork b) (fun w => .fail w)
      (runOpF P G heap size ops tmps o)) rest

def retF (P : Program) (G : Ctx) (callers : List AFrame) (heap : AHeap) (fn : FuncId) (tmps : Tr AV) (size : Nat) (reg : AReg) (todo : List AItem) (defers : List ADef) (dfd : Bool) (round : Option Nat) : Out :=
  match defers with
  | [] => @Bool.rec (fun _ => Out) (match resultA P heap ⟨fn, tmps, size, reg, todo, [], true, dfd, round⟩ with
      | some v => match callers with
        | [] => .done v heap
        | g :: rest => match finishF P G heap g v with
          | some g' => .next ⟨g', rest, heap⟩
          | none => .fail "finish"
      | none => .fail "result") (.fail "deferred") dfd
  | d :: ds => stepA P G ⟨⟨fn, tmps, size, reg, todo, d :: ds, true, dfd, round⟩, callers, heap⟩

def codeF (P : Program) (G : Ctx) (callers : List AFrame) (heap : AHeap) (fn : FuncId) (tmps : Tr AV) (size : Nat) (c : Code) (k : List AItem) (defers : List ADef) (dfd : Bool) (round : Option Nat) : Out :=
  match c with
  | .seq a b => .next ⟨⟨fn, tmps, size, .none, .code a :: .code b :: k, defers, false, dfd, round⟩, callers, heap⟩
  | .region id ops draw => @Bool.rec (fun _ => Out) (.next ⟨⟨fn, tmps, size, .seq ops 0 ops.toList, k, defers, false, dfd, round⟩, callers, heap⟩)
      (@Bool.rec (fun _ => Out) (.fail "edges") (.next ⟨⟨fn, tmps, size, .any ops (ops.toList.zipIdx.map fun p => (p.2, p.1)) [], k, defers, false, dfd, round⟩, callers, heap⟩) (okEdges ops)) draw
  | .cond x a b => @Bool.rec (fun _ => Out) (.fail "cond") (match evalA tmps x with
      | .bool s => match s.know G with
        | some t => .next ⟨⟨fn, tmps, size, .none, .code (@Bool.rec (fun _ => Code) b a t) :: k, defers, false, dfd, round⟩, callers, heap⟩
        | none => .fork (s.atom G)
      | _ => .fail "cond") (okRead size x)
  | .block id body => .next ⟨⟨fn, tmps, size, .none, .code body :: .inBlock id :: k, defers, false, dfd, round⟩, callers, heap⟩
  | .loop body => .next ⟨⟨fn, tmps, size, .none, .code body :: .inLoop body :: k, defers, false, dfd, round⟩, callers, heap⟩
  | .scope body => .next ⟨⟨fn, tmps, size, .none, .code body :: .inScope body :: k, defers, false, dfd, round⟩, callers, heap⟩
  | .skip => .next ⟨⟨fn, tmps, size, .none, k, defers, false, dfd, round⟩, callers, heap⟩
  | .label l => .next ⟨⟨fn, tmps, size, .none, k, defers, false, dfd, round⟩, callers, heap⟩
  | .ret => match round with
    | none => .next ⟨⟨fn, tmps, size, .none, .code .ret :: k, defers, true, dfd, none⟩, callers, heap⟩
    | some r => stepA P G ⟨⟨fn, tmps, size, .none, .code .ret :: k, defers, false, dfd, some r⟩, callers, heap⟩
  | .exit id => match exitA id k with
    | some k' => .next ⟨⟨fn, tmps, size, .none, k', defers, false, dfd, round⟩, callers, heap⟩
    | none => leaveA P G ⟨⟨fn, tmps, size, .none, .code (.exit id) :: k, defers, false, dfd, round⟩, callers, heap⟩ (some (.exit id))
  | c => stepA P G ⟨⟨fn, tmps, size, .none, .code c :: k, defers, false, dfd, round⟩, callers, heap⟩

def ctlF (P : Program) (G : Ctx) (callers : List AFrame) (heap : AHeap) (fn : FuncId) (tmps : Tr AV) (size : Nat) (todo : List AItem) (defers : List ADef) (dfd : Bool) (round : Option Nat) : Out :=
  @List.rec AItem (fun _ => Out) (stepA P G ⟨⟨fn, tmps, size, .none, [], defers, false, dfd, round⟩, callers, heap⟩)
    (fun it k _ => @AItem.rec (fun _ => Out)
      (fun c => codeF P G callers heap fn tmps size c k defers dfd round)
      (fun _ => .next ⟨⟨fn, tmps, size, .none, k, defers, false, dfd, round⟩, callers, heap⟩)
      (fun b => .next ⟨⟨fn, tmps, size, .none, .code b :: .inLoop b :: k, defers, false, dfd, round⟩, callers, heap⟩)
      (fun _ => .next ⟨⟨fn, tmps, size, .none, k, defers, false, dfd, round⟩, callers, heap⟩)
      (fun l => stepA P G ⟨⟨fn, tmps, size, .none, .inRangeFunc l :: k, defers, false, dfd, round⟩, callers, heap⟩)
      (fun l => stepA P G ⟨⟨fn, tmps, size, .none, .endRangeFunc l :: k, defers, false, dfd, round⟩, callers, heap⟩)
      (stepA P G ⟨⟨fn, tmps, size, .none, .beginRound :: k, defers, false, dfd, round⟩, callers, heap⟩)
      it) todo

def anyF (P : Program) (G : Ctx) (callers : List AFrame) (heap : AHeap) (fn : FuncId) (tmps : Tr AV) (size : Nat) (ops : Array Oper) (undone pre : List (Nat × Oper)) (todo : List AItem) (defers : List ADef) (dfd : Bool) (round : Option Nat) : Out :=
  match undone with
  | [] => .next ⟨⟨fn, tmps, size, .none, todo, defers, false, dfd, round⟩, callers, heap⟩
  | (i, o) :: u => match runOpF P G heap size ops tmps o with
    | .val v => @Bool.rec (fun _ => Out) (stepA P G ⟨⟨fn, tmps, size, .any ops ((i, o) :: u) pre, todo, defers, false, dfd, round⟩, callers, heap⟩)
        (match putDst size tmps o.dst v with
        | some tm => .next ⟨⟨fn, tm, size, .any ops (u.filter (fun p => !Nat.beq p.1 i)) ((i, o) :: pre), todo, defers, false, dfd, round⟩, callers, heap⟩
        | none => .fail "region") (mayFloat ops pre i o)
    | _ => stepA P G ⟨⟨fn, tmps, size, .any ops ((i, o) :: u) pre, todo, defers, false, dfd, round⟩, callers, heap⟩

def stepF (P : Program) (G : Ctx) (c : Cfg) : Out :=
  @Cfg.rec (fun _ => Out) (fun fr callers heap => @AFrame.rec (fun _ => Out) (fun fn tmps size reg todo defers returning dfd round =>
    @Bool.rec (fun _ => Out)
      (@AReg.rec (fun _ => Out) (ctlF P G callers heap fn tmps size todo defers dfd round)
        (fun ops i rest => seqF P G callers heap fn tmps size ops i rest todo defers dfd round)
        (fun ops undone pre => anyF P G callers heap fn tmps size ops undone pre todo defers dfd round) reg)
      (retF P G callers heap fn tmps size reg todo defers dfd round) returning) fr) c

section
variable {P : Program} {G : Ctx} {callers : List AFrame} {heap : AHeap} {fn : FuncId} {tmps : Tr AV} {size : Nat} {todo : List AItem} {defers : List ADef} {dfd : Bool} {round : Option Nat}
theorem retF_eq {reg : AReg} : retF P G callers heap fn tmps size reg todo defers dfd round = stepA P G ⟨⟨fn, tmps, size, reg, todo, defers, true, dfd, round⟩, callers, heap⟩ := by
  cases defers with
  | cons d ds => rfl
  | nil =>
    unfold retF stepA
    simp only [if_true]
    cases dfd with
    | true => rfl
    | false =>
      simp only [Bool.false_eq_true, if_false]
      cases resultA P heap ⟨fn, tmps, size, reg, todo, [], true, false, round⟩ with
      | none => rfl
      | some v =>
        simp only [handBack]
        cases callers with
        | nil => rfl
        | cons g rest => simp only [finishF_eq]; cases finishA P G heap g v <;> rfl

theorem codeF_eq {c : Code} {k : List AItem} : codeF P G callers heap fn tmps size c k defers dfd round = stepA P G ⟨⟨fn, tmps, size, .none, .code c :: k, defers, false, dfd, round⟩, callers, heap⟩ := by
  cases c with
  | cond x a b =>
    unfold codeF stepA
    simp only [Bool.false_eq_true, if_false, okRead_eq]
    cases okIn size x with
    | false => rfl
    | true =>
      simp only [if_true]
      cases evalA tmps x <;> try rfl
      rename_i s
      simp only
      cases s.know G with
      | none => rfl
      | some t => cases t <;> rfl
  | region id ops draw =>
    unfold codeF stepA
    simp only [Bool.false_eq_true, if_false]
    cases draw with
    | false => rfl
    | true => cases okEdges ops <;> simp
  | ret => cases round <;> rfl
  | exit id =>
    unfold codeF stepA
    simp only [Bool.false_eq_true, if_false]
    cases exitA id k <;> rfl
  | _ => rfl

theorem ctlF_eq : ctlF P G callers heap fn tmps size todo defers dfd round = stepA P G ⟨⟨fn, tmps, size, .none, todo, defers, false, dfd, round⟩, callers, heap⟩ := by
  cases todo with
  | nil => rfl
  | cons it k =>
    cases it with
    | code c => exact codeF_eq
    | _ => rfl

theorem seqF_eq {ops : Array Oper} {i : Nat} {rest : List Oper} : seqF P G callers heap fn tmps size ops i rest todo defers dfd round = stepA P G ⟨⟨fn, tmps, size, .seq ops i rest, todo, defers, false, dfd, round⟩, callers, heap⟩ := by
  cases rest with
  | nil => rfl
  | cons o rest' =>
    unfold stepA
    simp only [Bool.false_eq_true, if_false]
    unfold seqF
    simp only [runOpF_eq]
    cases runOp P G heap size ops tmps o with
    | val v =>
      simp only [applyOut, finishA, putDst]
      cases o.dst with
      | none => rfl
      | some d => simp only [natBlt]; by_cases h : d < size <;> simp [h]
    | eff v H =>
      simp only [applyOut, finishA, putDst]
      cases o.dst with
      | none => rfl
      | some d => simp only [natBlt]; by_cases h : d < size <;> simp [h]
    | enter f args =>
      simp only [applyOut]
      cases enterFrame P f args false <;> rfl
    | round l args => rfl
    | fork b => rfl
    | fail w => rfl
end

theorem stepF_ok {P : Program} {S : Start} {E : Env} {G : Ctx} {w : World} (hP : P.follows .mixedOrders = true) (hG : G.Ok E) {c : Cfg} {f : Frame} {fs : List Frame} (h : MRel P S E c f fs w) :
    OutSpec P S E (lone f (fs ++ S.cs) w) (stepF P G c) := by
  have hA := stepA_ok hP hG h
  obtain ⟨⟨fn, tmps, size, reg, todo, defers, returning, dfd, round⟩, callers, heap⟩ := c
  cases returning with
  | true =>
    have e : stepF P G ⟨⟨fn, tmps, size, reg, todo, defers, true, dfd, round⟩, callers, heap⟩ = stepA P G ⟨⟨fn, tmps, size, reg, todo, defers, true, dfd, round⟩, callers, heap⟩ := retF_eq
    rw [e]; exact hA
  | false =>
    cases reg with
    | none =>
      have e : stepF P G ⟨⟨fn, tmps, size, .none, todo, defers, false, dfd, round⟩, callers, heap⟩ = stepA P G ⟨⟨fn, tmps, size, .none, todo, defers, false, dfd, round⟩, callers, heap⟩ := ctlF_eq
      rw [e]; exact hA
    | seq ops i rest =>
      have e : stepF P G ⟨⟨fn, tmps, size, .seq ops i rest, todo, defers, false, dfd, round⟩, callers, heap⟩ = stepA P G ⟨⟨fn, tmps, size, .seq ops i rest, todo, defers, false, dfd, round⟩, callers, heap⟩ := seqF_eq
      rw [e]; exact hA
    | any ops undone pre =>
      show OutSpec P S E (lone f (fs ++ S.cs) w) (anyF P G callers heap fn tmps size ops undone pre todo defers dfd round)
      cases undone with
      | nil => exact hA
      | cons p u =>
        obtain ⟨i, o⟩ := p
        simp only [anyF, runOpF_eq]
        split
        · rename_i v hv
          cases hm : mayFloat ops pre i o with
          | false => exact hA
          | true =>
            simp only
            split
            · rename_i tm htm
              have := float_ok hG h rfl rfl (i := i) (o := o) (by simp) hv hm htm
              refine ⟨E, f, fs, w, Env.le.refl E, Steps.refl P _, ?_⟩
              have e : ((i, o) :: u).filter (fun p => !Nat.beq p.1 i) = u.filter (fun p => !Nat.beq p.1 i) := by
                rw [List.filter_cons]; simp
              rw [e] at this
              exact this
            · trivial
        · exact hA

/-- on it goes (a name of its own: the kernel then comes back to its outer loop) -/
def goF (ih : Ctx → Cfg → Bool) (G : Ctx) (c : Cfg) : Bool := ih G c

def exploreF (P : Program) (ok : AV → AHeap → Bool) (n : Nat) : Ctx → Cfg → Bool :=
  @Nat.rec (fun _ => Ctx → Cfg → Bool) (fun _ _ => false) (fun _ ih G c => @Out.rec (fun _ => Bool) (fun c' => goF ih G c') (fun l => l.all (ih G))
    (fun b => @Bool.rec (fun _ => Bool) false (ih { G with asm := (b, false) :: G.asm } c) (ih { G with asm := (b, true) :: G.asm } c)) (fun v H => ok v H) (fun _ => false) (stepF P G c)) n

theorem exploreF_ok {P : Program} {S : Start} (hP : P.follows .mixedOrders = true) {ok : AV → AHeap → Bool} : ∀ (n : Nat) {G : Ctx} {E : Env} {c : Cfg} {f : Frame} {fs : List Frame} {w : World}, G.Ok E → MRel P S E c f fs w →
    exploreF P ok n G c = true → EndSpec P S E (lone f (fs ++ S.cs) w) ok
  | 0, _, _, _, _, _, _, _, _, h => by simp [exploreF] at h
  | n + 1, G, E, c, f, fs, w, hG, hM, h => by
    have hst := stepF_ok hP hG hM
    have e : exploreF P ok (n + 1) G c = @Out.rec (fun _ => Bool) (fun c' => exploreF P ok n G c') (fun l => l.all (exploreF P ok n G))
      (fun b => @Bool.rec (fun _ => Bool) false (exploreF P ok n { G with asm := (b, false) :: G.asm } c) (exploreF P ok n { G with asm := (b, true) :: G.asm } c)) (fun v H => ok v H) (fun _ => false) (stepF P G c) := rfl
    rw [e] at h
    cases hc : stepF P G c with
    | next c' =>
      rw [hc] at hst h
      obtain ⟨E', f', fs', w', h1, h2, h3⟩ := hst
      exact (exploreF_ok hP n (hG.le h1) h3 h).of h1 h2
    | ways l =>
      rw [hc] at hst h
      obtain ⟨c', hc', E', f', fs', w', h1, h2, h3⟩ := hst
      exact (exploreF_ok hP n (hG.le h1) h3 (List.all_eq_true.1 h c' hc')).of h1 h2
    | fork b =>
      rw [hc] at h
      simp only at h
      cases h1 : exploreF P ok n { G with asm := (b, true) :: G.asm } c with
      | false => rw [h1] at h; simp at h
      | true =>
        rw [h1] at h
        cases hb : b.den E with
        | true => exact exploreF_ok hP n (hG.cons hb) hM h1
        | false => exact exploreF_ok hP n (hG.cons hb) hM h
    | done v H =>
      rw [hc] at hst h
      obtain ⟨f', w', v', h1, h2, h3, h4, h5, h6⟩ := hst
      exact ⟨E, v, H, f', w', v', h, Env.le.refl E, h1, h2, h3, h4, h5, h6⟩
    | fail s => rw [hc] at h; simp at h

end
end Go.Ev
