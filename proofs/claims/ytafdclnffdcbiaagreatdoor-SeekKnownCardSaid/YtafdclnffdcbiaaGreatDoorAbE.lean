/- A deterministic evaluator of the model's code, and that the model follows it (part 5). -/
import Derived.Test.YtafdclnffdcbiaaGreatDoorAbD
set_option maxHeartbeats 400000
set_option linter.unusedVariables false
set_option linter.unusedSimpArgs false
/- The evaluator in a shape that the kernel runs faster: drawn regions, code, calls. -/
namespace Go.Ab
noncomputable section

/-! ### regions that draw their order -/
theorem stepD_ext (E : Env) (R : Rec) (l : Loc) (qb : Bool) (o : Oper) (h : Hp) : stepD E R (l.evD (tmpsOf o.op.operands.toList)) qb o h = stepD E R l.ev qb o h := by
  unfold stepD
  rw [aop_ext (evD_own l o.op), aop_ext (evD_own l o.op)]
/-- Operations that answer at once. -/
def fastOp (op : Op) : Bool := Op.rec (motive := fun _ => Bool)
  (move := fun _ => true) (assign := fun _ => true) (pick := fun _ _ _ => false) (alloc := fun _ => false) (box := fun _ _ => false) (build := fun _ _ => false) (buildSlice := fun _ _ _ => false)
  (insert := fun _ _ _ _ => false) (load := fun _ _ => true) (store := fun _ _ _ => true) (ready := fun _ => false) (waits := fun _ => false) (nilCheck := fun _ => false) (binOp := fun _ _ _ _ _ => true)
  (unOp := fun _ _ _ => true) (convert := fun _ _ _ => false) (sliceToArrayPointer := fun _ _ => false) (makeInterface := fun _ _ => false) (makeFunc := fun _ _ _ => false) (makeMap := fun _ _ => false)
  (makeChan := fun _ _ => false) (makeSlice := fun _ _ _ => false) (slice := fun _ _ _ _ _ => false) (fieldAddr := fun _ _ _ => true) (field := fun _ _ _ => true) (indexAddr := fun _ _ _ => true) (index := fun _ _ _ => true)
  (lookup := fun _ _ _ _ => true) (mapUpdate := fun _ _ _ _ => true) (mapEntry := fun _ _ _ => true) (entryStore := fun _ _ _ _ => false) (range := fun _ _ => false) (next := fun _ _ => false) (entry := fun _ => false)
  (typeAssert := fun _ _ _ _ => false) (extract := fun _ _ => false) (call := fun _ => false) (go := fun _ => false) (defer := fun _ => false) (panic := fun _ => false) (send := fun _ _ => false) (recv := fun _ _ _ => false)
  (select := fun _ _ => false) op
theorem fast_step {E : Env} {R : Rec} {cx : Cx} {o : Oper} {l : Loc} {h : Hp} (hf : fastOp o.op = true) {K : Value → Hp → Opt} :
    bind2 (stepOp E R cx o l h) (fun l' h' => none) (fun _ _ _ => none) = none ∧
    ∀ kn : Loc → Hp → Opt, bind2 (stepOp E R cx o l h) kn (fun _ _ _ => none) = (match stepD E R l.ev false o h with
      | none => none
      | some (v, h') => kn (l.put o.dst v) h') := by
  have key : ∀ x, aop E l.ev h o.op = x → ((∃ h0 r, x = wrapR h0 r) ∨ (∃ r, x = wrapV r) ∨ ∃ r, x = wrapU r) → ∀ kn : Loc → Hp → Opt, bind2 (stepOp E R cx o l h) kn (fun _ _ _ => none) = (match stepD E R l.ev false o h with
      | none => none
      | some (v, h') => kn (l.put o.dst v) h') := by
    intro x hx hs kn
    have hn : (∀ h', x ≠ some (.recov, h')) ∧ ∀ d h', x ≠ some (.defer d, h') := by
      rcases hs with ⟨h0, r, rfl⟩ | ⟨r, rfl⟩ | ⟨r, rfl⟩
      · exact wrapR_ne
      · exact wrapV_ne
      · exact wrapU_ne
    rw [step_plain hx hn.1 hn.2]
    simp only [stepD, cond_false, hx]
    rcases hs with ⟨h0, r, rfl⟩ | ⟨r, rfl⟩ | ⟨r, rfl⟩ <;> cases r <;> rfl
  have kind : (∃ h0 r, aop E l.ev h o.op = wrapR h0 r) ∨ (∃ r, aop E l.ev h o.op = wrapV r) ∨ ∃ r, aop E l.ev h o.op = wrapU r := by
    obtain ⟨dst, op, ty, pos, after, guard⟩ := o
    simp only [] at hf ⊢
    cases op <;> (try (cases hf; done))
    all_goals first
      | exact .inl ⟨h, some (l.ev _), rfl⟩
      | exact .inl ⟨h, _, rfl⟩
      | exact .inr (.inl ⟨_, rfl⟩)
      | exact .inr (.inr ⟨_, rfl⟩)
  refine ⟨?_, key _ rfl kind⟩
  rw [key _ rfl kind]
  cases stepD E R l.ev false o h <;> rfl
def hushK (E : Env) (q i : Nat) (op : Op) : Bool := Bool.rec (Bool.rec false (Nat.ble 3 (cls E op)) (Nat.testBit q i)) false (Nat.beq q 0)
theorem hushK_eq (E : Env) (q i : Nat) (op : Op) : hushK E q i op = hush E q i op := by
  unfold hushK hush
  cases hq : Nat.beq q 0 with
  | true =>
    have : q = 0 := Nat.eq_of_beq_eq_true hq
    subst this
    simp
  | false => cases Nat.testBit q i <;> rfl
def outDK (o : Out) : (Value → Hp → Opt) → Hp → Opt := Out.rec (motive := fun _ => (Value → Hp → Opt) → Hp → Opt) (fun v k h => k v h) (fun _ _ _ => none) o
def resDK (r : Option (Out × Option (Value × Bool) × Hp)) (k : Value → Hp → Opt) : Opt := Option.rec none (fun q => Prod.rec (fun o q2 => Prod.rec (fun _ h => outDK o k h) q2) q) r
/-- A step of a drawn region, by its own road. -/
def slowDK (E : Env) (R : Rec) (qb : Bool) (o : Oper) (l : Loc) (h : Hp) (k : Value → Hp → Opt) : Opt := Option.rec none (fun p => k p.1 p.2) (stepD E R l.ev qb o h)
def quietK (h : Hp) (k : Value → Hp → Opt) (v : Value) (h' : Hp) : Opt := Bool.rec none (k v { h' with lo := h.lo }) (Nat.ble h.n h'.lo)
def callDK (E : Env) (R : Rec) (qb : Bool) (o : Oper) (c : Call) (l : Loc) (h : Hp) (k : Value → Hp → Opt) : Opt := Callee.rec (motive := fun _ => Opt)
  (fun f => Option.rec (slowDK E R qb o l h k) (fun p => Bool.rec (resDK (R.call p.1 (p.2.1.toList ++ c.args.toList.map (evK l) ++ p.2.2.toList) none h) k)
    (resDK (R.call p.1 (p.2.1.toList ++ c.args.toList.map (evK l) ++ p.2.2.toList) none { h with lo := h.n }) (quietK h k)) qb) (asFn (evK l f)))
  (fun _ _ => slowDK E R qb o l h k) (fun _ => slowDK E R qb o l h k) c.callee
def asCall (op : Op) : Option Call := match op with
  | .call c => some c
  | _ => none
def elseDK (E : Env) (R : Rec) (qb : Bool) (o : Oper) (l : Loc) (h : Hp) (k : Value → Hp → Opt) : Opt := Option.rec (slowDK E R qb o l h k) (fun c => callDK E R qb o c l h k) (asCall o.op)
theorem elseDK_eq (E : Env) (R : Rec) (qb : Bool) (o : Oper) (l : Loc) (h : Hp) (k : Value → Hp → Opt) : elseDK E R qb o l h k = slowDK E R qb o l h k := by
  unfold elseDK
  cases hc : asCall o.op with
  | none => rfl
  | some c =>
    show callDK E R qb o c l h k = _
    have ho : o.op = .call c := by
      unfold asCall at hc
      split at hc
      · rename_i he; cases hc; exact he
      · cases hc
    unfold callDK
    cases hcc : c.callee with
    | invoke r n => rfl
    | builtin b => rfl
    | value f =>
      show Option.rec (motive := fun _ => Opt) (slowDK E R qb o l h k) _ (asFn (evK l f)) = _
      rw [evK_eq]
      cases hf : asFn (l.ev f) with
      | none => rfl
      | some p =>
        obtain ⟨g, a, b⟩ := p
        have hv : l.ev f = .func (.func g) a b := by
          unfold asFn at hf
          split at hf
          · rename_i he; cases hf; exact he
          · cases hf
        have hx : ∀ h, aop E l.ev h o.op = some (.call g (a.toList ++ c.args.toList.map l.ev ++ b.toList), h) := by intro h; rw [ho]; simp only [aop, hcc, hv, target]
        unfold slowDK stepD
        cases qb with
        | false =>
          simp only [cond_false, hx, opVal]
          show resDK (R.call g (a.toList ++ c.args.toList.map l.ev ++ b.toList) none h) k = _
          cases R.call g (a.toList ++ c.args.toList.map l.ev ++ b.toList) none h with
          | none => rfl
          | some q => obtain ⟨x, rc, h2⟩ := q; cases x <;> rfl
        | true =>
          simp only [cond_true, hx, opVal]
          show resDK (R.call g (a.toList ++ c.args.toList.map l.ev ++ b.toList) none { h with lo := h.n }) (quietK h k) = _
          cases R.call g (a.toList ++ c.args.toList.map l.ev ++ b.toList) none { h with lo := h.n } with
          | none => rfl
          | some q =>
            obtain ⟨x, rc, h2⟩ := q
            cases x with
            | pan v => rfl
            | ret v =>
              show quietK h k v h2 = _
              simp only [quietK]
              cases Nat.ble h.n h2.lo <;> rfl
abbrev DM := Nat → Loc → Hp → List (Nat × Nat) → Opt
def stepDK (E : Env) (R : Rec) (cx : Cx) (q : Nat) (o : Oper) (ih : DM) (i : Nat) (l : Loc) (h : Hp) (tr : List (Nat × Nat)) : Opt :=
  Bool.rec (elseDK E R (hushK E q i o.op) o l h fun v h' => ih (i + 1) (putK l o.dst v) h' (noted i tr (touch (l.evD (tmpsOf o.op.operands.toList)) o.op)))
    (Bool.rec (opK o.op E R cx o.dst l h (fun l' h' => ih (i + 1) l' h' (noted i tr (touch (l.evD (tmpsOf o.op.operands.toList)) o.op))) (fun _ _ _ => none))
      (slowDK E R true o l h fun v h' => ih (i + 1) (putK l o.dst v) h' (noted i tr (touch (l.evD (tmpsOf o.op.operands.toList)) o.op))) (hushK E q i o.op)) (fastOp o.op)
def opsDK (E : Env) (R : Rec) (cx : Cx) (ops : List Oper) (q : Nat) (fin : DM) (os : List Oper) : DM := List.rec (motive := fun _ => DM) fin
  (fun o _ ih i l h tr => Option.rec none (fun b => Bool.rec (ih (i + 1) (putK l o.dst (.tuple #[])) h tr) (stepDK E R cx q o ih i l h tr) b) (guardK ops l o)) os
theorem opsDK_eq (E : Env) (R : Rec) (cx : Cx) (ops : List Oper) (q : Nat) (K : Loc → Hp → List (Nat × Nat) → Opt) : ∀ (os : List Oper) (i : Nat) (l : Loc) (h : Hp) (tr : List (Nat × Nat)),
    opsDK E R cx ops q (fun _ l h tr => K l h tr) os i l h tr = (match evOpsD E R ops q os i l h tr with
      | none => none
      | some (l', h', tr') => K l' h' tr')
  | [], i, l, h, tr => rfl
  | o :: os, i, l, h, tr => by
    have ih := opsDK_eq E R cx ops q K os
    show Option.rec (motive := fun _ => Opt) none (fun b => Bool.rec (opsDK E R cx ops q (fun _ l h tr => K l h tr) os (i + 1) (putK l o.dst (.tuple #[])) h tr) (stepDK E R cx q o (opsDK E R cx ops q (fun _ l h tr => K l h tr) os) i l h tr) b) (guardK ops l o) = _
    rw [guardK_eq]
    simp only [evOpsD]
    cases guardOk ops l.regs o with
    | none => rfl
    | some b =>
      cases b with
      | false => show opsDK E R cx ops q (fun _ l h tr => K l h tr) os (i + 1) (putK l o.dst (.tuple #[])) h tr = _; rw [ih, putK_eq]
      | true =>
        show stepDK E R cx q o (opsDK E R cx ops q (fun _ l h tr => K l h tr) os) i l h tr = _
        simp only []
        have hslow : ∀ qb, hush E q i o.op = qb → slowDK E R qb o l h (fun v h' => opsDK E R cx ops q (fun _ l h tr => K l h tr) os (i + 1) (putK l o.dst v) h' (noted i tr (touch (l.evD (tmpsOf o.op.operands.toList)) o.op))) =
            (match (match stepD E R (l.evD (tmpsOf o.op.operands.toList)) (hush E q i o.op) o h with
              | none => none
              | some (v, h') => evOpsD E R ops q os (i + 1) (l.put o.dst v) h' (noted i tr (touch (l.evD (tmpsOf o.op.operands.toList)) o.op))) with
              | none => none
              | some (l', h', tr') => K l' h' tr') := by
          intro qb hq
          rw [stepD_ext, hq]
          unfold slowDK
          cases stepD E R l.ev qb o h with
          | none => rfl
          | some p => obtain ⟨v, h'⟩ := p; show opsDK E R cx ops q _ os (i + 1) (putK l o.dst v) h' _ = _; rw [ih, putK_eq]
        unfold stepDK
        cases hf : fastOp o.op with
        | false =>
          show elseDK E R (hushK E q i o.op) o l h _ = _
          rw [elseDK_eq, hushK_eq]
          exact hslow _ rfl
        | true =>
          cases hq : hushK E q i o.op with
          | true =>
            rw [hushK_eq] at hq
            exact hslow true hq
          | false =>
            rw [hushK_eq] at hq
            show opK o.op E R cx o.dst l h _ _ = _
            rw [opK_eq, (fast_step (R := R) hf (K := fun _ _ => none)).2, stepD_ext, hq]
            cases stepD E R l.ev false o h with
            | none => rfl
            | some p => obtain ⟨v, h'⟩ := p; simp only []; rw [ih]
def drawK (E : Env) (R : Rec) (cx : Cx) (ops : List Oper) (l : Loc) (h : Hp) (kn : Loc → Hp → Opt) : Opt :=
  Option.rec none (fun p => opsDK E R cx ops p.1 (fun _ l h tr => Bool.rec none (kn l h) (pairsOk tr p.2)) ops 0 l h []) (plan E ops)

/-! ### code -/
abbrev CodeM := Cx → Code → Loc → Hp → (Loc → Hp → Opt) → (Ex → Loc → Hp → Opt) → Opt
def asBool : Value → Option Bool
  | .bool b => some b
  | _ => none
def blkK (e : Ex) : Nat → (Loc → Hp → Opt) → (Ex → Loc → Hp → Opt) → Loc → Hp → Opt := Ex.rec (motive := fun _ => Nat → (Loc → Hp → Opt) → (Ex → Loc → Hp → Opt) → Loc → Hp → Opt)
  (fun _ kn _ l h => kn l h) (fun i id kn ka l h => Bool.rec (ka (.exit i) l h) (kn l h) (Nat.beq i id)) (fun _ _ ka l h => ka .ret l h) (fun v _ _ ka l h => ka (.pan v) l h) e
def codeK (E : Env) (R : Rec) (M : CodeM) (cx : Cx) (c : Code) : Loc → Hp → (Loc → Hp → Opt) → (Ex → Loc → Hp → Opt) → Opt := Code.rec (motive := fun _ => Loc → Hp → (Loc → Hp → Opt) → (Ex → Loc → Hp → Opt) → Opt)
  (skip := fun l h kn _ => kn l h)
  (region := fun _ ops draw l h kn ka => Bool.rec (opsK E R cx ops.toList kn ka ops.toList l h) (drawK E R cx ops.toList l h kn) draw)
  (seq := fun _ _ iha ihb l h kn ka => iha l h (fun l h => ihb l h kn ka) ka)
  (cond := fun c _ _ iha ihb l h kn ka => Option.rec none (fun t => Bool.rec (ihb l h kn ka) (iha l h kn ka) t) (asBool (evK l c)))
  (block := fun id _ ih l h kn ka => ih l h kn (fun e l h => blkK e id kn ka l h))
  (loop := fun b ih l h kn ka => ih l h (fun l h => M cx (.loop b) l h kn ka) ka)
  (rangeFunc := fun f ps asg body _ _ l h kn ka => bind2 (rangeStep R cx (evK l f) ps asg body l h) kn ka)
  (exit := fun id l h _ ka => ka (.exit id) l h)
  (scope := fun _ ih l h kn ka => ih l h kn ka)
  (label := fun _ l h kn _ => kn l h)
  (goto := fun _ _ _ _ _ => none)
  (ret := fun l h _ ka => ka .ret l h)
  (refuse := fun _ _ _ _ _ => none) c
theorem codeK_eq (E : Env) (R : Rec) (M : CodeM) (hM : ∀ cx c l h kn ka, M cx c l h kn ka = bind2 (R.code cx c l h) kn ka) (cx : Cx) : ∀ (c : Code) (l : Loc) (h : Hp) (kn : Loc → Hp → Opt) (ka : Ex → Loc → Hp → Opt),
    codeK E R M cx c l h kn ka = bind2 (codeStep E R cx c l h) kn ka := by
  intro c
  induction c with
  | skip => intro l h kn ka; rfl
  | label n => intro l h kn ka; rfl
  | region id ops draw =>
    intro l h kn ka
    cases draw with
    | false => exact opsK_eq E R cx ops.toList kn ka ops.toList l h
    | true =>
      show drawK E R cx ops.toList l h kn = _
      unfold drawK
      simp only [codeStep, cond_true]
      cases plan E ops.toList with
      | none => rfl
      | some p =>
        obtain ⟨q, ps⟩ := p
        show opsDK E R cx ops.toList q (fun _ l h tr => Bool.rec none (kn l h) (pairsOk tr ps)) ops.toList 0 l h [] = _
        rw [opsDK_eq E R cx ops.toList q (fun l h tr => Bool.rec none (kn l h) (pairsOk tr ps))]
        simp only []
        cases evOpsD E R ops.toList q ops.toList 0 l h [] with
        | none => rfl
        | some x =>
          obtain ⟨a, b, c⟩ := x
          simp only []
          cases pairsOk c ps <;> rfl
  | seq a b iha ihb =>
    intro l h kn ka
    show codeK E R M cx a l h (fun l h => codeK E R M cx b l h kn ka) ka = _
    rw [iha, show (fun l h => codeK E R M cx b l h kn ka) = fun l h => bind2 (codeStep E R cx b l h) kn ka from funext fun l => funext fun h => ihb l h kn ka]
    rw [bind2_bind _ _ _ _ _ (fun _ _ _ _ => rfl)]
    simp only [codeStep]
    cases codeStep E R cx a l h with
    | none => rfl
    | some q => obtain ⟨e, l', h'⟩ := q; cases e <;> rfl
  | cond c a b iha ihb =>
    intro l h kn ka
    show Option.rec (motive := fun _ => Opt) none (fun t => Bool.rec (codeK E R M cx b l h kn ka) (codeK E R M cx a l h kn ka) t) (asBool (evK l c)) = _
    rw [evK_eq, iha, ihb]
    simp only [codeStep]
    cases l.ev c <;> (try rfl)
    rename_i t
    cases t <;> rfl
  | block id b ih =>
    intro l h kn ka
    show codeK E R M cx b l h kn (fun e l h => blkK e id kn ka l h) = _
    rw [ih]
    simp only [codeStep]
    cases codeStep E R cx b l h with
    | none => rfl
    | some q =>
      obtain ⟨e, l', h'⟩ := q
      cases e with
      | normal => rfl
      | ret => rfl
      | pan v => rfl
      | exit i =>
        show Bool.rec (motive := fun _ => Opt) (ka (.exit i) l' h') (kn l' h') (Nat.beq i id) = _
        simp only []
        cases Nat.beq i id <;> rfl
  | loop b ih =>
    intro l h kn ka
    show codeK E R M cx b l h (fun l h => M cx (.loop b) l h kn ka) ka = _
    rw [ih, show (fun l h => M cx (.loop b) l h kn ka) = fun l h => bind2 (R.code cx (.loop b) l h) kn ka from funext fun l => funext fun h => hM cx (.loop b) l h kn ka]
    rw [bind2_bind _ _ _ _ _ (fun _ _ _ _ => rfl)]
    simp only [codeStep]
    cases codeStep E R cx b l h with
    | none => rfl
    | some q => obtain ⟨e, l', h'⟩ := q; cases e <;> rfl
  | rangeFunc f ps asg body _ _ =>
    intro l h kn ka
    show bind2 (rangeStep R cx (evK l f) ps asg body l h) kn ka = _
    rw [evK_eq]; rfl
  | exit id => intro l h kn ka; rfl
  | scope b ih => intro l h kn ka; exact ih l h kn ka
  | goto n => intro l h kn ka; rfl
  | ret => intro l h kn ka; rfl
  | refuse m => intro l h kn ka; rfl

/-! ### calls -/
abbrev ResK := Option (Out × Option (Value × Bool) × Hp)
def slowDone (E : Env) (R : Rec) (fn : Func) (l : Loc) (h' : Hp) : ResK := match unwindA R l.dfs none h' with
  | some (none, h'') => match readRes E l.regs h'' fn.results.toList with
    | none => none
    | some vs => some (.ret (tupleOf vs), l.rc, h'')
  | _ => none
def doneK (E : Env) (R : Rec) (fn : Func) (l : Loc) (h : Hp) : ResK := List.rec (motive := fun _ => ResK)
  (Option.rec none (fun vs => some (.ret (tupleOf vs), l.rc, h)) (readRes E l.regs h fn.results.toList)) (fun _ _ _ => slowDone E R fn l h) l.dfs
theorem doneK_eq (E : Env) (R : Rec) (fn : Func) (l : Loc) (h : Hp) : doneK E R fn l h = slowDone E R fn l h := by
  unfold doneK slowDone
  cases hd : l.dfs with
  | cons d ds => rfl
  | nil =>
    simp only [unwindA]
    cases readRes E l.regs h fn.results.toList <;> rfl
def slowPan (E : Env) (R : Rec) (fn : Func) (v : Value) (l : Loc) (h' : Hp) : ResK := match unwindA R l.dfs (some v) h' with
  | none => none
  | some (some v, h'') => some (.pan v, l.rc, h'')
  | some (none, h'') => match readRes E l.regs h'' fn.results.toList with
    | none => none
    | some vs => some (.ret (tupleOf vs), l.rc, h'')
def exLeave (e : Ex) : Env → Rec → Func → Loc → Hp → ResK := Ex.rec (motive := fun _ => Env → Rec → Func → Loc → Hp → ResK) doneK (fun _ _ _ _ _ _ => none) doneK (fun v E R fn l h => slowPan E R fn v l h) e
def leaveK (E : Env) (R : Rec) (fn : Func) (r : Opt) : ResK := Option.rec none (fun q => Prod.rec (fun e q2 => Prod.rec (fun l h => exLeave e E R fn l h) q2) q) r
def callFn (E : Env) (R : Rec) (f : FuncId) (args : List Value) (rc : Option (Value × Bool)) (h : Hp) (fn : Func) (body : Code) : ResK :=
  Bool.rec none (leaveK E R fn (R.code ⟨f, fn.ntmps, none⟩ body ⟨(Tr.blank (.tuple #[]) fn.ntmps fn.ntmps).setAll 0 args, [], rc⟩ h)) (Nat.ble args.length fn.ntmps)
def callSK (E : Env) (R : Rec) (f : FuncId) (args : List Value) (rc : Option (Value × Bool)) (h : Hp) : ResK :=
  Option.rec none (fun fn => Option.rec none (fun body => callFn E R f args rc h fn body) fn.body) (E.fn f)
theorem callSK_eq (E : Env) (R : Rec) (f : FuncId) (args : List Value) (rc : Option (Value × Bool)) (h : Hp) : callSK E R f args rc h = callStep E R f args rc h := by
  unfold callSK callStep
  cases E.fn f with
  | none => rfl
  | some fn =>
    show Option.rec (motive := fun _ => ResK) none (fun body => callFn E R f args rc h fn body) fn.body = _
    simp only []
    cases fn.body with
    | none => rfl
    | some body =>
      show callFn E R f args rc h fn body = _
      unfold callFn
      simp only []
      cases Nat.ble args.length fn.ntmps with
      | false => rfl
      | true =>
        show leaveK E R fn _ = _
        simp only [cond_true]
        cases R.code ⟨f, fn.ntmps, none⟩ body ⟨(Tr.blank (.tuple #[]) fn.ntmps fn.ntmps).setAll 0 args, [], rc⟩ h with
        | none => rfl
        | some q =>
          obtain ⟨e, l, h'⟩ := q
          cases e with
          | exit i => rfl
          | pan v => rfl
          | normal => exact doneK_eq E R fn l h'
          | ret => exact doneK_eq E R fn l h'

structure RK where
  call : FuncId → List Value → Option (Value × Bool) → Hp → ResK
  code : CodeM
def RK.rec' (K : RK) : Rec := ⟨K.call, fun cx c l h => K.code cx c l h (fun l h => some (.normal, l, h)) (fun e l h => some (e, l, h))⟩
def botK : RK := ⟨fun _ _ _ _ => none, fun _ _ _ _ _ _ => none⟩
def nextRK (E : Env) (K : RK) : RK := ⟨fun f args rc h => callSK E K.rec' f args rc h, fun cx c l h kn ka => codeK E K.rec' K.code cx c l h kn ka⟩
def runK (E : Env) (n : Nat) : RK := Nat.rec botK (fun _ K => nextRK E K) n
theorem runK_rel (E : Env) : ∀ n, (runK E n).rec' = run E n ∧ ∀ cx c l h kn ka, (runK E n).code cx c l h kn ka = bind2 ((run E n).code cx c l h) kn ka
  | 0 => ⟨rfl, fun _ _ _ _ _ _ => rfl⟩
  | n + 1 => by
    obtain ⟨h1, h2⟩ := runK_rel E n
    have hc : ∀ cx c l h kn ka, (runK E (n + 1)).code cx c l h kn ka = bind2 ((run E (n + 1)).code cx c l h) kn ka := by
      intro cx c l h kn ka
      show codeK E (runK E n).rec' (runK E n).code cx c l h kn ka = bind2 (codeStep E (run E n) cx c l h) kn ka
      rw [h1]
      exact codeK_eq E (run E n) (runK E n).code h2 cx c l h kn ka
    refine ⟨?_, hc⟩
    show Rec.mk (fun f args rc h => callSK E (runK E n).rec' f args rc h) (fun cx c l h => (runK E (n + 1)).code cx c l h (fun l h => some (.normal, l, h)) (fun e l h => some (e, l, h))) = next E (run E n)
    rw [h1]
    unfold next
    congr 1
    · funext f args rc h; exact callSK_eq E (run E n) f args rc h
    · funext cx c l h; rw [hc, bind2_id]; rfl
theorem runK_call (E : Env) (n : Nat) (f : FuncId) (args : List Value) (rc : Option (Value × Bool)) (h : Hp) : (runK E n).call f args rc h = (run E n).call f args rc h := by
  rw [← (runK_rel E n).1]; rfl

/-- An environment, for the kernel. -/
def envK (fns : Tr Func) (tys : Tr TypeInfo) (eqs : List Nat) : Env := { fn := fun f => getK fns f, ty := fun t => getK tys t, eqok := fun t => memb t eqs }
theorem envK_eq (fns : Tr Func) (tys : Tr TypeInfo) (eqs : List Nat) : envK fns tys eqs = envOf fns tys eqs := by
  unfold envK envOf
  congr 1
  · funext f; exact getK_eq fns f
  · funext t; exact getK_eq tys t
end
end Go.Ab
