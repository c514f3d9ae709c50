/- A deterministic evaluator of the model's code, and that the model follows it (part 5). -/
import Derived.Test.YthkppmgcldlmaaaGreatDoorAbD
import Derived.WalkKit
import Derived.ProofKit
import Derived.OpenShut
import Derived.Carry
set_option maxHeartbeats 400000
set_option linter.unusedVariables false
set_option linter.unusedSimpArgs false
/- The evaluator for the kernel is the evaluator: operations, regions. -/
namespace Go.Ab
noncomputable section
theorem getK_eq {α : Type} (t : Tr α) (i : Nat) : getK t i = t.get i := rfl
theorem setK_eq {α : Type} (t : Tr α) (i : Nat) (x : α) : setK t i x = t.set i x := rfl

theorem putK_eq (l : Loc) (d : Option Tmp) (v : Value) : putK l d v = l.put d v := by
  cases d with
  | none => rfl
  | some t => show Loc.mk (setK l.regs t v) l.dfs l.rc = _; rw [setK_eq]; rfl
theorem evK_eq (l : Loc) : evK l = l.ev := by
  funext x
  cases x with
  | tmp t =>
    show Option.rec (motive := fun _ => Value) _ _ (getK l.regs t) = _
    rw [getK_eq]
    simp only [Loc.ev]
    cases l.regs.get t <;> rfl
  | const v => simp only [Loc.ev]; show Bool.rec (motive := fun _ => Value) poison v (okConst v) = _; cases okConst v <;> rfl
  | global g => simp only [Loc.ev]; show Bool.rec (motive := fun _ => Value) poison _ (Nat.blt g 16) = _; cases Nat.blt g 16 <;> rfl
  | func f => rfl

/-! ### continuations -/
theorem bind2_normal (l : Loc) (h : Hp) (kn : Loc → Hp → Opt) (ka : Ex → Loc → Hp → Opt) : bind2 (some (.normal, l, h)) kn ka = kn l h := rfl
theorem bind2_id (x : Opt) : bind2 x (fun l h => some (.normal, l, h)) (fun e l h => some (e, l, h)) = x := by
  cases x with
  | none => rfl
  | some q => obtain ⟨e, l, h⟩ := q; cases e <;> rfl
theorem bind2_bind (x : Opt) (k1 : Loc → Hp → Opt) (a1 : Ex → Loc → Hp → Opt) (kn : Loc → Hp → Opt) (ka : Ex → Loc → Hp → Opt) (ha : ∀ e l h, e ≠ .normal → a1 e l h = ka e l h) :
    bind2 x (fun l h => bind2 (k1 l h) kn ka) a1 = bind2 (match x with
      | some (.normal, l, h) => k1 l h
      | r => r) kn ka := by
  cases x with
  | none => rfl
  | some q =>
    obtain ⟨e, l, h⟩ := q
    cases e with
    | normal => rfl
    | exit i => exact ha _ _ _ (by simp)
    | ret => exact ha _ _ _ (by simp)
    | pan v => exact ha _ _ _ (by simp)

/-! ### operations -/
theorem binK_eq (E : Env) (op : BinOp) (t : TypeId) (x y : Operand) (a b : Value) : binK E op t x y a b = binP E op t x y a b := by
  cases a <;> (try rfl)
  cases b <;> (try rfl)
  rename_i k m k' n
  cases op <;> (try rfl)
  all_goals (show Bool.rec (motive := fun _ => Option Value) none _ (keqb k k') = (bif keqb k k' then _ else none); cases keqb k k' <;> rfl)

theorem slow_eq (E : Env) (R : Rec) (cx : Cx) (o : Oper) (l : Loc) (h : Hp) (kn : Loc → Hp → Opt) (ka : Ex → Loc → Hp → Opt) : slowK o.op E R cx o.dst l h kn ka = bind2 (stepOp E R cx o l h) kn ka := rfl
theorem retK_eq (r : Option Value) (o : Oper) (l : Loc) (h : Hp) (E : Env) (R : Rec) (kn : Loc → Hp → Opt) (ka : Ex → Loc → Hp → Opt) : retK r o.dst l h kn = bind2 (ofOut o l (opVal E R (wrapR h r))) kn ka := by
  cases r with
  | none => rfl
  | some v => show kn (putK l o.dst v) h = kn (l.put o.dst v) h; rw [putK_eq]
theorem retHK_eq (r : Option (Hp × Value)) (o : Oper) (l : Loc) (E : Env) (R : Rec) (kn : Loc → Hp → Opt) (ka : Ex → Loc → Hp → Opt) : retHK r o.dst l kn = bind2 (ofOut o l (opVal E R (wrapV r))) kn ka := by
  cases r with
  | none => rfl
  | some p => obtain ⟨h, v⟩ := p; show kn (putK l o.dst v) h = kn (l.put o.dst v) h; rw [putK_eq]
theorem retUK_eq (r : Option Hp) (o : Oper) (l : Loc) (E : Env) (R : Rec) (kn : Loc → Hp → Opt) (ka : Ex → Loc → Hp → Opt) : retUK r o.dst l kn = bind2 (ofOut o l (opVal E R (wrapU r))) kn ka := by
  cases r with
  | none => rfl
  | some h => show kn (putK l o.dst (.tuple #[])) h = kn (l.put o.dst (.tuple #[])) h; rw [putK_eq]
theorem resK_eq (R : Rec) (g : FuncId) (args : List Value) (o : Oper) (l : Loc) (h : Hp) (E : Env) (kn : Loc → Hp → Opt) (ka : Ex → Loc → Hp → Opt) :
    resK (R.call g args none h) o.dst l kn ka = bind2 (ofOut o l (opVal E R (some (.call g args, h)))) kn ka := by
  simp only [opVal]
  cases R.call g args none h with
  | none => rfl
  | some q =>
    obtain ⟨x, rc, h2⟩ := q
    cases x with
    | ret v => show kn (putK l o.dst v) h2 = kn (l.put o.dst v) h2; rw [putK_eq]
    | pan v => rfl
/-- A step of an operation that answers at once. -/
theorem step_plain {E : Env} {R : Rec} {cx : Cx} {o : Oper} {l : Loc} {h : Hp} {x : Option (ANext × Hp)} (hx : aop E l.ev h o.op = x) (hn : ∀ h', x ≠ some (.recov, h')) (hd : ∀ d h', x ≠ some (.defer d, h')) : stepOp E R cx o l h = ofOut o l (opVal E R x) := by
  unfold stepOp
  rw [hx]
  split
  · exact absurd rfl (hn _)
  · exact absurd rfl (hd _ _)
  · rfl
theorem wrapR_ne {h : Hp} {r : Option Value} : (∀ h', wrapR h r ≠ some (.recov, h')) ∧ ∀ d h', wrapR h r ≠ some (.defer d, h') := by cases r <;> exact ⟨by intros; simp [wrapR], by intros; simp [wrapR]⟩
theorem wrapV_ne {r : Option (Hp × Value)} : (∀ h', wrapV r ≠ some (.recov, h')) ∧ ∀ d h', wrapV r ≠ some (.defer d, h') := by cases r <;> exact ⟨by intros; simp [wrapV], by intros; simp [wrapV]⟩
theorem wrapU_ne {r : Option Hp} : (∀ h', wrapU r ≠ some (.recov, h')) ∧ ∀ d h', wrapU r ≠ some (.defer d, h') := by cases r <;> exact ⟨by intros; simp [wrapU], by intros; simp [wrapU]⟩
theorem opK_eq (E : Env) (R : Rec) (cx : Cx) (o : Oper) (l : Loc) (h : Hp) (kn : Loc → Hp → Opt) (ka : Ex → Loc → Hp → Opt) : opK o.op E R cx o.dst l h kn ka = bind2 (stepOp E R cx o l h) kn ka := by
  have hr : ∀ r, aop E l.ev h o.op = wrapR h r → retK r o.dst l h kn = bind2 (stepOp E R cx o l h) kn ka := fun r hx => by rw [step_plain hx wrapR_ne.1 wrapR_ne.2]; exact retK_eq r o l h E R kn ka
  have hv : ∀ r, aop E l.ev h o.op = wrapV r → retHK r o.dst l kn = bind2 (stepOp E R cx o l h) kn ka := fun r hx => by rw [step_plain hx wrapV_ne.1 wrapV_ne.2]; exact retHK_eq r o l E R kn ka
  have hu : ∀ r, aop E l.ev h o.op = wrapU r → retUK r o.dst l kn = bind2 (stepOp E R cx o l h) kn ka := fun r hx => by rw [step_plain hx wrapU_ne.1 wrapU_ne.2]; exact retUK_eq r o l E R kn ka
  obtain ⟨dst, op, ty, pos, after, guard⟩ := o
  simp only [] at hr hv hu ⊢
  cases op
  case move x =>
    have := hr (some (l.ev x)) rfl
    rw [← this]
    show kn (putK l dst (evK l x)) h = kn (putK l dst (l.ev x)) h
    rw [evK_eq]
  case assign x =>
    have := hr (some (l.ev x)) rfl
    rw [← this]
    show kn (putK l dst (evK l x)) h = kn (putK l dst (l.ev x)) h
    rw [evK_eq]
  case load t a => rw [← hr _ rfl]; show retK (loadV E h t (evK l a)) dst l h kn = _; rw [evK_eq]
  case store t a v => rw [← hu _ rfl]; show retUK (storeV E h t (evK l a) (evK l v)) dst l kn = _; rw [evK_eq]
  case binOp b t x y u => rw [← hr (binP E b t x y (l.ev x) (l.ev y)) rfl]; show retK (binK E b t x y (evK l x) (evK l y)) dst l h kn = _; rw [evK_eq, binK_eq]
  case unOp b t x => rw [← hr (unP b (l.ev x)) rfl]; show retK (unP b (evK l x)) dst l h kn = _; rw [evK_eq]
  case fieldAddr t x i => rw [← hr (fieldAddrP E t (l.ev x) i) rfl]; show retK (fieldAddrP E t (evK l x) i) dst l h kn = _; rw [evK_eq]
  case field t x i => rw [← hr (fieldP E t (l.ev x) i) rfl]; show retK (fieldP E t (evK l x) i) dst l h kn = _; rw [evK_eq]
  case indexAddr t x i => rw [← hr (indexAddrP E t (l.ev x) (l.ev i)) rfl]; show retK (indexAddrP E t (evK l x) (evK l i)) dst l h kn = _; rw [evK_eq]
  case index t x i => rw [← hr (indexP E t (l.ev x) (l.ev i)) rfl]; show retK (indexP E t (evK l x) (evK l i)) dst l h kn = _; rw [evK_eq]
  case lookup t m k b => rw [← hr _ rfl]; show retK (lookupV E h t (evK l m) (evK l k) b) dst l h kn = _; rw [evK_eq]
  case mapUpdate t m k v => rw [← hu _ rfl]; show retUK (mapPut E h t (evK l m) (evK l k) (evK l v)) dst l kn = _; rw [evK_eq]
  case mapEntry t m k => rw [← hv _ rfl]; show retHK (mapEnt E h t (evK l m) (evK l k)) dst l kn = _; rw [evK_eq]
  case call c =>
    show callK c E R cx dst l h kn ka = _
    unfold callK
    cases hc : c.callee with
    | invoke r n => rfl
    | builtin b => rfl
    | value f =>
      show Option.rec (motive := fun _ => Opt) (slowK (.call c) E R cx dst l h kn ka) _ (asFn (evK l f)) = _
      rw [evK_eq]
      cases hf : asFn (l.ev f) with
      | none => rfl
      | some p =>
        obtain ⟨g, a, b⟩ := p
        have hv : l.ev f = .func (.func g) a b := by
          unfold asFn at hf
          split at hf
          · rename_i he; cases hf; exact he
          · cases hf
        have hx : aop E l.ev h (.call c) = some (.call g (a.toList ++ c.args.toList.map l.ev ++ b.toList), h) := by simp only [aop, hc, hv, target]
        rw [step_plain (o := ⟨dst, .call c, ty, pos, after, guard⟩) hx (by intro h' e; cases e) (by intro d h' e; cases e)]
        exact resK_eq R g _ ⟨dst, .call c, ty, pos, after, guard⟩ l h E kn ka
  all_goals rfl

/-! ### regions -/
theorem guardK_eq (ops : List Oper) (l : Loc) (o : Oper) : guardK ops l o = guardOk ops l.regs o := by
  unfold guardK
  cases hg : o.guard with
  | none => unfold guardOk; rw [hg]
  | some q => rfl
theorem opsK_eq (E : Env) (R : Rec) (cx : Cx) (ops : List Oper) (kn : Loc → Hp → Opt) (ka : Ex → Loc → Hp → Opt) : ∀ (os : List Oper) (l : Loc) (h : Hp), opsK E R cx ops kn ka os l h = bind2 (evOps E R cx ops os l h) kn ka
  | [], l, h => rfl
  | o :: os, l, h => by
    have ih := opsK_eq E R cx ops kn ka os
    show Option.rec (motive := fun _ => Opt) none (fun b => Bool.rec (opsK E R cx ops kn ka os (putK l o.dst (.tuple #[])) h) (opK o.op E R cx o.dst l h (opsK E R cx ops kn ka os) ka) b) (guardK ops l o) = _
    rw [guardK_eq]
    simp only [evOps]
    cases guardOk ops l.regs o with
    | none => rfl
    | some b =>
      cases b with
      | false => show opsK E R cx ops kn ka os (putK l o.dst (.tuple #[])) h = _; rw [ih, putK_eq]
      | true =>
        show opK o.op E R cx o.dst l h (opsK E R cx ops kn ka os) ka = _
        rw [opK_eq, show opsK E R cx ops kn ka os = fun l h => bind2 (evOps E R cx ops os l h) kn ka from funext fun l => funext fun h => ih l h]
        rw [bind2_bind _ _ _ _ _ (fun _ _ _ _ => rfl)]
        simp only []
        cases stepOp E R cx o l h with
        | none => rfl
        | some q => obtain ⟨e, l', h'⟩ := q; cases e <;> rfl

end
end Go.Ab

/- The evaluator for the kernel is the evaluator: drawn regions, code, calls. -/
namespace Go.Ab
noncomputable section

/-! ### regions that draw their order -/
theorem stepD_ext (E : Env) (R : Rec) (l : Loc) (qb : Bool) (o : Oper) (h : Hp) : stepD E R (l.evD (tmpsOf o.op.operands.toList)) qb o h = stepD E R l.ev qb o h := by
  unfold stepD
  rw [aop_ext (evD_own l o.op), aop_ext (evD_own l o.op)]
theorem fast_step {E : Env} {R : Rec} {cx : Cx} {o : Oper} {l : Loc} {h : Hp} (hf : fastOp o.op = true) {K : Value → Hp → Opt} :
    bind2 (stepOp E R cx o l h) (fun l' h' => none) (fun _ _ _ => none) = none ∧
    ∀ kn : Loc → Hp → Opt, bind2 (stepOp E R cx o l h) kn (fun _ _ _ => none) = (match stepD E R l.ev false o h with
      | none => none
      | some (v, h') => kn (l.put o.dst v) h') := by
  have key : ∀ x, aop E l.ev h o.op = x → ((∃ h0 r, x = wrapR h0 r) ∨ (∃ r, x = wrapV r) ∨ ∃ r, x = wrapU r) → ∀ kn : Loc → Hp → Opt, bind2 (stepOp E R cx o l h) kn (fun _ _ _ => none) = (match stepD E R l.ev false o h with
      | none => none
      | some (v, h') => kn (l.put o.dst v) h') := by
    intro x hx hs kn
    have hn : (∀ h', x ≠ some (.recov, h')) ∧ ∀ d h', x ≠ some (.defer d, h') := by
      rcases hs with ⟨h0, r, rfl⟩ | ⟨r, rfl⟩ | ⟨r, rfl⟩
      · exact wrapR_ne
      · exact wrapV_ne
      · exact wrapU_ne
    rw [step_plain hx hn.1 hn.2]
    simp only [stepD, cond_false, hx]
    rcases hs with ⟨h0, r, rfl⟩ | ⟨r, rfl⟩ | ⟨r, rfl⟩ <;> cases r <;> rfl
  have kind : (∃ h0 r, aop E l.ev h o.op = wrapR h0 r) ∨ (∃ r, aop E l.ev h o.op = wrapV r) ∨ ∃ r, aop E l.ev h o.op = wrapU r := by
    obtain ⟨dst, op, ty, pos, after, guard⟩ := o
    simp only [] at hf ⊢
    cases op <;> (try (cases hf; done))
    all_goals first
      | exact .inl ⟨h, some (l.ev _), rfl⟩
      | exact .inl ⟨h, _, rfl⟩
      | exact .inr (.inl ⟨_, rfl⟩)
      | exact .inr (.inr ⟨_, rfl⟩)
  refine ⟨?_, key _ rfl kind⟩
  rw [key _ rfl kind]
  cases stepD E R l.ev false o h <;> rfl
theorem hushK_eq (E : Env) (q i : Nat) (op : Op) : hushK E q i op = hush E q i op := by
  unfold hushK hush
  cases hq : Nat.beq q 0 with
  | true =>
    have : q = 0 := Nat.eq_of_beq_eq_true hq
    subst this
    simp
  | false => cases Nat.testBit q i <;> rfl
theorem elseDK_eq (E : Env) (R : Rec) (qb : Bool) (o : Oper) (l : Loc) (h : Hp) (k : Value → Hp → Opt) : elseDK E R qb o l h k = slowDK E R qb o l h k := by
  unfold elseDK
  cases hc : asCall o.op with
  | none => rfl
  | some c =>
    show callDK E R qb o c l h k = _
    have ho : o.op = .call c := by
      unfold asCall at hc
      split at hc
      · rename_i he; cases hc; exact he
      · cases hc
    unfold callDK
    cases hcc : c.callee with
    | invoke r n => rfl
    | builtin b => rfl
    | value f =>
      show Option.rec (motive := fun _ => Opt) (slowDK E R qb o l h k) _ (asFn (evK l f)) = _
      rw [evK_eq]
      cases hf : asFn (l.ev f) with
      | none => rfl
      | some p =>
        obtain ⟨g, a, b⟩ := p
        have hv : l.ev f = .func (.func g) a b := by
          unfold asFn at hf
          split at hf
          · rename_i he; cases hf; exact he
          · cases hf
        have hx : ∀ h, aop E l.ev h o.op = some (.call g (a.toList ++ c.args.toList.map l.ev ++ b.toList), h) := by intro h; rw [ho]; simp only [aop, hcc, hv, target]
        unfold slowDK stepD
        cases qb with
        | false =>
          simp only [cond_false, hx, opVal]
          show resDK (R.call g (a.toList ++ c.args.toList.map l.ev ++ b.toList) none h) k = _
          cases R.call g (a.toList ++ c.args.toList.map l.ev ++ b.toList) none h with
          | none => rfl
          | some q => obtain ⟨x, rc, h2⟩ := q; cases x <;> rfl
        | true =>
          simp only [cond_true, hx, opVal]
          show resDK (R.call g (a.toList ++ c.args.toList.map l.ev ++ b.toList) none { h with lo := h.n }) (quietK h k) = _
          cases R.call g (a.toList ++ c.args.toList.map l.ev ++ b.toList) none { h with lo := h.n } with
          | none => rfl
          | some q =>
            obtain ⟨x, rc, h2⟩ := q
            cases x with
            | pan v => rfl
            | ret v =>
              show quietK h k v h2 = _
              simp only [quietK]
              cases Nat.ble h.n h2.lo <;> rfl
theorem opsDK_eq (E : Env) (R : Rec) (cx : Cx) (ops : List Oper) (q : Nat) (K : Loc → Hp → List (Nat × Nat) → Opt) : ∀ (os : List Oper) (i : Nat) (l : Loc) (h : Hp) (tr : List (Nat × Nat)),
    opsDK E R cx ops q (fun _ l h tr => K l h tr) os i l h tr = (match evOpsD E R ops q os i l h tr with
      | none => none
      | some (l', h', tr') => K l' h' tr')
  | [], i, l, h, tr => rfl
  | o :: os, i, l, h, tr => by
    have ih := opsDK_eq E R cx ops q K os
    show Option.rec (motive := fun _ => Opt) none (fun b => Bool.rec (opsDK E R cx ops q (fun _ l h tr => K l h tr) os (i + 1) (putK l o.dst (.tuple #[])) h tr) (stepDK E R cx q o (opsDK E R cx ops q (fun _ l h tr => K l h tr) os) i l h tr) b) (guardK ops l o) = _
    rw [guardK_eq]
    simp only [evOpsD]
    cases guardOk ops l.regs o with
    | none => rfl
    | some b =>
      cases b with
      | false => show opsDK E R cx ops q (fun _ l h tr => K l h tr) os (i + 1) (putK l o.dst (.tuple #[])) h tr = _; rw [ih, putK_eq]
      | true =>
        show stepDK E R cx q o (opsDK E R cx ops q (fun _ l h tr => K l h tr) os) i l h tr = _
        simp only []
        have hslow : ∀ qb, hush E q i o.op = qb → slowDK E R qb o l h (fun v h' => opsDK E R cx ops q (fun _ l h tr => K l h tr) os (i + 1) (putK l o.dst v) h' (noted i tr (touch (l.evD (tmpsOf o.op.operands.toList)) o.op))) =
            (match (match stepD E R (l.evD (tmpsOf o.op.operands.toList)) (hush E q i o.op) o h with
              | none => none
              | some (v, h') => evOpsD E R ops q os (i + 1) (l.put o.dst v) h' (noted i tr (touch (l.evD (tmpsOf o.op.operands.toList)) o.op))) with
              | none => none
              | some (l', h', tr') => K l' h' tr') := by
          intro qb hq
          rw [stepD_ext, hq]
          unfold slowDK
          cases stepD E R l.ev qb o h with
          | none => rfl
          | some p => obtain ⟨v, h'⟩ := p; show opsDK E R cx ops q _ os (i + 1) (putK l o.dst v) h' _ = _; rw [ih, putK_eq]
        unfold stepDK
        cases hf : fastOp o.op with
        | false =>
          show elseDK E R (hushK E q i o.op) o l h _ = _
          rw [elseDK_eq, hushK_eq]
          exact hslow _ rfl
        | true =>
          cases hq : hushK E q i o.op with
          | true =>
            rw [hushK_eq] at hq
            exact hslow true hq
          | false =>
            rw [hushK_eq] at hq
            show opK o.op E R cx o.dst l h _ _ = _
            rw [opK_eq, (fast_step (R := R) hf (K := fun _ _ => none)).2, stepD_ext, hq]
            cases stepD E R l.ev false o h with
            | none => rfl
            | some p => obtain ⟨v, h'⟩ := p; simp only []; rw [ih]
/-! ### code -/
theorem codeK_eq (E : Env) (R : Rec) (M : CodeM) (hM : ∀ cx c l h kn ka, M cx c l h kn ka = bind2 (R.code cx c l h) kn ka) (cx : Cx) : ∀ (c : Code) (l : Loc) (h : Hp) (kn : Loc → Hp → Opt) (ka : Ex → Loc → Hp → Opt),
    codeK E R M cx c l h kn ka = bind2 (codeStep E R cx c l h) kn ka := by
  intro c
  induction c with
  | skip => intro l h kn ka; rfl
  | label n => intro l h kn ka; rfl
  | region id ops draw =>
    intro l h kn ka
    cases draw with
    | false => exact opsK_eq E R cx ops.toList kn ka ops.toList l h
    | true =>
      show drawK E R cx ops.toList l h kn = _
      unfold drawK
      simp only [codeStep, cond_true]
      cases plan E ops.toList with
      | none => rfl
      | some p =>
        obtain ⟨q, ps⟩ := p
        show opsDK E R cx ops.toList q (fun _ l h tr => Bool.rec none (kn l h) (pairsOk tr ps)) ops.toList 0 l h [] = _
        rw [opsDK_eq E R cx ops.toList q (fun l h tr => Bool.rec none (kn l h) (pairsOk tr ps))]
        simp only []
        cases evOpsD E R ops.toList q ops.toList 0 l h [] with
        | none => rfl
        | some x =>
          obtain ⟨a, b, c⟩ := x
          simp only []
          cases pairsOk c ps <;> rfl
  | seq a b iha ihb =>
    intro l h kn ka
    show codeK E R M cx a l h (fun l h => codeK E R M cx b l h kn ka) ka = _
    rw [iha, show (fun l h => codeK E R M cx b l h kn ka) = fun l h => bind2 (codeStep E R cx b l h) kn ka from funext fun l => funext fun h => ihb l h kn ka]
    rw [bind2_bind _ _ _ _ _ (fun _ _ _ _ => rfl)]
    simp only [codeStep]
    cases codeStep E R cx a l h with
    | none => rfl
    | some q => obtain ⟨e, l', h'⟩ := q; cases e <;> rfl
  | cond c a b iha ihb =>
    intro l h kn ka
    show Option.rec (motive := fun _ => Opt) none (fun t => Bool.rec (codeK E R M cx b l h kn ka) (codeK E R M cx a l h kn ka) t) (asBool (evK l c)) = _
    rw [evK_eq, iha, ihb]
    simp only [codeStep]
    cases l.ev c <;> (try rfl)
    rename_i t
    cases t <;> rfl
  | block id b ih =>
    intro l h kn ka
    show codeK E R M cx b l h kn (fun e l h => blkK e id kn ka l h) = _
    rw [ih]
    simp only [codeStep]
    cases codeStep E R cx b l h with
    | none => rfl
    | some q =>
      obtain ⟨e, l', h'⟩ := q
      cases e with
      | normal => rfl
      | ret => rfl
      | pan v => rfl
      | exit i =>
        show Bool.rec (motive := fun _ => Opt) (ka (.exit i) l' h') (kn l' h') (Nat.beq i id) = _
        simp only []
        cases Nat.beq i id <;> rfl
  | loop b ih =>
    intro l h kn ka
    show codeK E R M cx b l h (fun l h => M cx (.loop b) l h kn ka) ka = _
    rw [ih, show (fun l h => M cx (.loop b) l h kn ka) = fun l h => bind2 (R.code cx (.loop b) l h) kn ka from funext fun l => funext fun h => hM cx (.loop b) l h kn ka]
    rw [bind2_bind _ _ _ _ _ (fun _ _ _ _ => rfl)]
    simp only [codeStep]
    cases codeStep E R cx b l h with
    | none => rfl
    | some q => obtain ⟨e, l', h'⟩ := q; cases e <;> rfl
  | rangeFunc f ps asg body _ _ =>
    intro l h kn ka
    show bind2 (rangeStep R cx (evK l f) ps asg body l h) kn ka = _
    rw [evK_eq]; rfl
  | exit id => intro l h kn ka; rfl
  | scope b ih => intro l h kn ka; exact ih l h kn ka
  | goto n => intro l h kn ka; rfl
  | ret => intro l h kn ka; rfl
  | refuse m => intro l h kn ka; rfl

/-! ### calls -/
theorem doneK_eq (E : Env) (R : Rec) (fn : Func) (l : Loc) (h : Hp) : doneK E R fn l h = slowDone E R fn l h := by
  unfold doneK slowDone
  cases hd : l.dfs with
  | cons d ds => rfl
  | nil =>
    simp only [unwindA]
    cases readRes E l.regs h fn.results.toList <;> rfl
theorem callSK_eq (E : Env) (R : Rec) (f : FuncId) (args : List Value) (rc : Option (Value × Bool)) (h : Hp) : callSK E R f args rc h = callStep E R f args rc h := by
  unfold callSK callStep
  cases E.fn f with
  | none => rfl
  | some fn =>
    show Option.rec (motive := fun _ => ResK) none (fun body => callFn E R f args rc h fn body) fn.body = _
    simp only []
    cases fn.body with
    | none => rfl
    | some body =>
      show callFn E R f args rc h fn body = _
      unfold callFn
      simp only []
      cases Nat.ble args.length fn.ntmps with
      | false => rfl
      | true =>
        show leaveK E R fn _ = _
        simp only [cond_true]
        cases R.code ⟨f, fn.ntmps, none⟩ body ⟨(Tr.blank (.tuple #[]) fn.ntmps fn.ntmps).setAll 0 args, [], rc⟩ h with
        | none => rfl
        | some q =>
          obtain ⟨e, l, h'⟩ := q
          cases e with
          | exit i => rfl
          | pan v => rfl
          | normal => exact doneK_eq E R fn l h'
          | ret => exact doneK_eq E R fn l h'

theorem runK_rel (E : Env) : ∀ n, (runK E n).rec' = run E n ∧ ∀ cx c l h kn ka, (runK E n).code cx c l h kn ka = bind2 ((run E n).code cx c l h) kn ka
  | 0 => ⟨rfl, fun _ _ _ _ _ _ => rfl⟩
  | n + 1 => by
    obtain ⟨h1, h2⟩ := runK_rel E n
    have hc : ∀ cx c l h kn ka, (runK E (n + 1)).code cx c l h kn ka = bind2 ((run E (n + 1)).code cx c l h) kn ka := by
      intro cx c l h kn ka
      show codeK E (runK E n).rec' (runK E n).code cx c l h kn ka = bind2 (codeStep E (run E n) cx c l h) kn ka
      rw [h1]
      exact codeK_eq E (run E n) (runK E n).code h2 cx c l h kn ka
    refine ⟨?_, hc⟩
    show Rec.mk (fun f args rc h => callSK E (runK E n).rec' f args rc h) (fun cx c l h => (runK E (n + 1)).code cx c l h (fun l h => some (.normal, l, h)) (fun e l h => some (e, l, h))) = next E (run E n)
    rw [h1]
    unfold next
    congr 1
    · funext f args rc h; exact callSK_eq E (run E n) f args rc h
    · funext cx c l h; rw [hc, bind2_id]; rfl
theorem runK_call (E : Env) (n : Nat) (f : FuncId) (args : List Value) (rc : Option (Value × Bool)) (h : Hp) : (runK E n).call f args rc h = (run E n).call f args rc h := by
  rw [← (runK_rel E n).1]; rfl

theorem envK_eq (fns : Tr Func) (tys : Tr TypeInfo) (eqs : List Nat) : envK fns tys eqs = envOf fns tys eqs := rfl

theorem hpK_eq : hpK = hp0 := rfl
end
end Go.Ab

/- Equations of operations, one by one, for rewriting. -/
namespace Go.Ab
section
variable {E : Env} {ρ : Operand → Value} {h : Hp}
theorem o_move {x : Operand} : aop E ρ h (.move x) = some (.val (ρ x), h) := rfl
theorem o_assign {x : Operand} : aop E ρ h (.assign x) = some (.val (ρ x), h) := rfl
theorem o_pick {c a b : Operand} : aop E ρ h (.pick c a b) = wrapR h (match ρ c with | .bool t => some (bif t then ρ a else ρ b) | _ => none) := rfl
theorem o_load {t : TypeId} {a : Operand} : aop E ρ h (.load t a) = wrapR h (loadV E h t (ρ a)) := rfl
theorem o_store {t : TypeId} {a x : Operand} : aop E ρ h (.store t a x) = wrapU (storeV E h t (ρ a) (ρ x)) := rfl
theorem o_binOp {op : BinOp} {t u : TypeId} {x y : Operand} : aop E ρ h (.binOp op t x y u) = wrapR h (binP E op t x y (ρ x) (ρ y)) := rfl
theorem o_unOp {op : UnOp} {t : TypeId} {x : Operand} : aop E ρ h (.unOp op t x) = wrapR h (unP op (ρ x)) := rfl
theorem o_nilCheck {x : Operand} : aop E ρ h (.nilCheck x) = wrapR h (match ρ x with | .pointer (some a) => some (.pointer (some a)) | .func (.func f) a b => some (.func (.func f) a b) | _ => none) := rfl
theorem o_makeInterface {t : TypeId} {x : Operand} : aop E ρ h (.makeInterface t x) = wrapR h (match E.und t with | none => none | some (.interface _) => none | some _ => some (.iface t (ρ x))) := rfl
theorem o_makeFunc {f : FuncId} {a b : Array Operand} : aop E ρ h (.makeFunc (.func f) a b) = some (.val (.func (.func f) (a.map ρ) (b.map ρ)), h) := rfl
theorem o_slice {t : TypeId} {x : Operand} {l u m : Option Operand} : aop E ρ h (.slice t x l u m) = wrapR h (sliceP E t (ρ x) (l.map ρ) (u.map ρ) (m.map ρ)) := rfl
theorem o_fieldAddr {s : TypeId} {x : Operand} {i : Nat} : aop E ρ h (.fieldAddr s x i) = wrapR h (fieldAddrP E s (ρ x) i) := rfl
theorem o_field {s : TypeId} {x : Operand} {i : Nat} : aop E ρ h (.field s x i) = wrapR h (fieldP E s (ρ x) i) := rfl
theorem o_indexAddr {t : TypeId} {x i : Operand} : aop E ρ h (.indexAddr t x i) = wrapR h (indexAddrP E t (ρ x) (ρ i)) := rfl
theorem o_index {t : TypeId} {x i : Operand} : aop E ρ h (.index t x i) = wrapR h (indexP E t (ρ x) (ρ i)) := rfl
theorem o_extract {t : Operand} {i : Nat} : aop E ρ h (.extract t i) = wrapR h (match ρ t with | .tuple vs => vs.toList[i]? | _ => none) := rfl
theorem o_build {t : TypeId} {ps : Array (Nat × Operand)} : aop E ρ h (.build t ps) = wrapR h (buildP E t (ps.toList.map fun p => (p.1, ρ p.2))) := rfl
theorem o_buildSlice {t : TypeId} {n : Nat} {ps : Array (Nat × Operand)} : aop E ρ h (.buildSlice t n ps) = wrapV (buildSliceV E h t n (ps.toList.map fun p => (p.1, ρ p.2))) := rfl
theorem o_makeSlice {t : TypeId} {l c : Operand} : aop E ρ h (.makeSlice t l c) = wrapV (makeSliceV E h t (ρ l) (ρ c)) := rfl
theorem o_makeMap {t : TypeId} : aop E ρ h (.makeMap t none) = some (.val (.map (some h.n)), h.new (.map [] 0)) := rfl
theorem o_typeAssert {x : Operand} {s t : TypeId} {ok : Bool} : aop E ρ h (.typeAssert x s t ok) = wrapR h (assertP E (ρ x) t ok) := rfl
theorem o_convert {s t : TypeId} {x : Operand} : aop E ρ h (.convert s t x) = wrapV (convV E h s t (ρ x)) := rfl
theorem o_lookup {t : TypeId} {m k : Operand} {ok : Bool} : aop E ρ h (.lookup t m k ok) = wrapR h (lookupV E h t (ρ m) (ρ k) ok) := rfl
theorem o_mapUpdate {t : TypeId} {m k v : Operand} : aop E ρ h (.mapUpdate t m k v) = wrapU (mapPut E h t (ρ m) (ρ k) (ρ v)) := rfl
theorem o_mapEntry {t : TypeId} {m k : Operand} : aop E ρ h (.mapEntry t m k) = wrapV (mapEnt E h t (ρ m) (ρ k)) := rfl
theorem o_entryStore {t : TypeId} {m s v : Operand} : aop E ρ h (.entryStore t m s v) = wrapU (entStore h (ρ m) (ρ s) (ρ v)) := rfl
theorem o_alloc {t : TypeId} : aop E ρ h (.alloc t) = match E.zero t with | none => none | some z => some (.val (ptrTo h.n), h.new (.cells (Tr.ofList z) z.length t 1)) := by
  simp only [aop]; cases E.zero t <;> rfl
theorem o_box {t : TypeId} {x : Operand} : aop E ρ h (.box t x) = match ρ x with | .chan _ => none | v => some (.val (ptrTo h.n), h.new (.cells (Tr.ofList (vcells v)) (vcells v).length t 1)) := by
  simp only [aop]; cases ρ x <;> rfl
theorem o_callv {f : Operand} {as : Array Operand} {ts : Array TypeId} : aop E ρ h (.call ⟨.value f, as, ts⟩) = match target (ρ f) (as.toList.map ρ) with | none => none | some x => some (x, h) := rfl
theorem o_len {x : Operand} {t : TypeId} {v : Value} (hv : lenP E t (ρ x) = some v) : aop E ρ h (.call ⟨.builtin .len, #[x], #[t]⟩) = some (.val v, h) := by
  simp only [aop, pop, hv]
theorem o_max {x y : Operand} {ts : Array TypeId} : aop E ρ h (.call ⟨.builtin .max, #[x, y], ts⟩) = wrapR h (minmax true (ρ x) [ρ y]) := rfl
theorem o_min {x y : Operand} {ts : Array TypeId} : aop E ρ h (.call ⟨.builtin .min, #[x, y], ts⟩) = wrapR h (minmax false (ρ x) [ρ y]) := rfl
theorem o_append {s x : Operand} {ts : Array TypeId} : aop E ρ h (.call ⟨.builtin .append, #[s, x], ts⟩) = wrapV (appendV E h ts.toList (ρ s) (ρ x)) := rfl
theorem o_copy {s x : Operand} {ts : Array TypeId} : aop E ρ h (.call ⟨.builtin .copy, #[s, x], ts⟩) = wrapV (copyV E h ts.toList (ρ s) (ρ x)) := rfl
end
theorem wrapR_some {h : Hp} {v : Value} : wrapR h (some v) = some (.val v, h) := rfl
theorem wrapV_some {h : Hp} {v : Value} : wrapV (some (h, v)) = some (.val v, h) := rfl
theorem wrapU_some {h : Hp} : wrapU (some h) = some (.skip, h) := rfl
theorem step_call {E : Env} {cx : Cx} {o : Oper} {l : Loc} {K : Ex → Loc → Hp → Prop} {h : Hp} {f : FuncId} {args : List Value} : StepR E cx o l K (some (.call f args, h)) ↔ CallQ E f args none h fun x _ h'' => match x with
    | .ret v => K .normal (l.put o.dst v) h''
    | .pan v => K (.pan v) l h'' := Iff.rfl
theorem guard_none {a : List Oper} {rg : Tr Value} {d : Option Tmp} {op : Op} {t : TypeId} {p : String} {af : Array Edge} {b : Bool} : (guardOk a rg ⟨d, op, t, p, af, none⟩ = some b) = (true = b) := by
  simp [guardOk]
theorem keqb_refl (k : IntKind) : keqb k k = true := by rw [keqb_eq]; simp
theorem b_add {E : Env} {t : TypeId} {x y : Operand} {k : IntKind} {m n : Int} : binP E .add t x y (.int k m) (.int k n) = some (.int k (wrapI k (m + n))) := by simp [binP, keqb_refl, arithI]
theorem b_sub {E : Env} {t : TypeId} {x y : Operand} {k : IntKind} {m n : Int} : binP E .sub t x y (.int k m) (.int k n) = some (.int k (wrapI k (m - n))) := by simp [binP, keqb_refl, arithI]
theorem b_mul {E : Env} {t : TypeId} {x y : Operand} {k : IntKind} {m n : Int} : binP E .mul t x y (.int k m) (.int k n) = some (.int k (wrapI k (m * n))) := by simp [binP, keqb_refl, arithI]
theorem ibeq_dec (m n : Int) : ibeq m n = decide (m = n) := by rw [ibeq_eq]; by_cases h : m = n <;> simp [h]
theorem b_eql {E : Env} {t : TypeId} {x y : Operand} {k : IntKind} {m n : Int} : binP E .eql t x y (.int k m) (.int k n) = some (.bool (decide (m = n))) := by simp [binP, keqb_refl, arithI, ibeq_dec]
theorem b_neq {E : Env} {t : TypeId} {x y : Operand} {k : IntKind} {m n : Int} : binP E .neq t x y (.int k m) (.int k n) = some (.bool (!decide (m = n))) := by simp [binP, keqb_refl, arithI, ibeq_dec]
theorem b_lss {E : Env} {t : TypeId} {x y : Operand} {k : IntKind} {m n : Int} : binP E .lss t x y (.int k m) (.int k n) = some (.bool (decide (m < n))) := by simp [binP, keqb_refl, arithI, iblt_eq]
theorem b_leq {E : Env} {t : TypeId} {x y : Operand} {k : IntKind} {m n : Int} : binP E .leq t x y (.int k m) (.int k n) = some (.bool (decide (m ≤ n))) := by
  simp only [binP, keqb_refl, arithI, iblt_eq, cond_true]
  by_cases hx : m ≤ n
  · rw [decide_eq_true hx, decide_eq_false (by omega)]; rfl
  · rw [decide_eq_false hx, decide_eq_true (by omega)]; rfl
theorem b_gtr {E : Env} {t : TypeId} {x y : Operand} {k : IntKind} {m n : Int} : binP E .gtr t x y (.int k m) (.int k n) = some (.bool (decide (n < m))) := by simp [binP, keqb_refl, arithI, iblt_eq]
theorem b_geq {E : Env} {t : TypeId} {x y : Operand} {k : IntKind} {m n : Int} : binP E .geq t x y (.int k m) (.int k n) = some (.bool (decide (n ≤ m))) := by
  simp only [binP, keqb_refl, arithI, iblt_eq, cond_true]
  by_cases hx : n ≤ m
  · rw [decide_eq_true hx, decide_eq_false (by omega)]; rfl
  · rw [decide_eq_false hx, decide_eq_true (by omega)]; rfl
theorem b_quo {E : Env} {t : TypeId} {x y : Operand} {k : IntKind} {m n : Int} (h : n ≠ 0) : binP E .quo t x y (.int k m) (.int k n) = some (.int k (wrapI k (m.tdiv n))) := by
  simp [binP, keqb_refl, arithI, ibeq_dec, h]
theorem b_rem {E : Env} {t : TypeId} {x y : Operand} {k : IntKind} {m n : Int} (h : n ≠ 0) : binP E .rem t x y (.int k m) (.int k n) = some (.int k (m.tmod n)) := by
  simp [binP, keqb_refl, arithI, ibeq_dec, h]
theorem mm_max {k k' : IntKind} {a b : Int} : minmax true (.int k a) [.int k' b] = some (.int k (max a b)) := by
  simp only [minmax, iblt_eq, cond_true]
  by_cases h : a < b
  · rw [decide_eq_true h]; simp only [cond_true]; rw [Int.max_eq_right (by omega)]
  · rw [decide_eq_false h]; simp only [cond_false]; rw [Int.max_eq_left (by omega)]
theorem mm_min {k k' : IntKind} {a b : Int} : minmax false (.int k a) [.int k' b] = some (.int k (min a b)) := by
  simp only [minmax, iblt_eq, cond_false]
  by_cases h : b < a
  · rw [decide_eq_true h]; simp only [cond_true]; rw [Int.min_eq_right (by omega)]
  · rw [decide_eq_false h]; simp only [cond_false]; rw [Int.min_eq_left (by omega)]
theorem loadV_one {E : Env} {h : Hp} {t : TypeId} {b o : Nat} {s : Option Nat} {v : Value} (ht : E.agg t = some false) (hl : h.load b o 1 = some [v]) : loadV E h t (.pointer (some ⟨b, o, s⟩)) = some v := by
  simp [loadV, ht, hl]
theorem loadV_box {E : Env} {h : Hp} {t : TypeId} {b : Nat} {v : Value} (ht : E.agg t = some false) (hl : h.load b 0 1 = some [v]) : loadV E h t (ptrTo b) = some v := loadV_one ht hl
theorem wrap64 {n : Int} (h1 : -9223372036854775808 ≤ n) (h2 : n < 9223372036854775808) : wrapI .i64 n = n := by
  unfold wrapI
  cases n with
  | ofNat m =>
    have : Nat.blt m (hf .i64) = true := by rw [Nat.blt_eq]; simp only [hf]; have h2' : (m : Int) < 9223372036854775808 := h2; omega
    simp only [this, cond_true]
  | negSucc m =>
    have : Nat.blt m (hf .i64) = true := by rw [Nat.blt_eq]; simp only [hf]; have : -9223372036854775808 ≤ Int.negSucc m := h1; omega
    simp only [sgn, this, cond_true]
theorem true_eq_ite {P Q : Prop} : (if true = true then P else Q) = P := by simp
theorem exists_true {P : Bool → Prop} : (∃ b, true = b ∧ P b) ↔ P true := ⟨fun ⟨b, h1, h2⟩ => by rw [h1]; exact h2, fun h => ⟨true, rfl, h⟩⟩
theorem exists_some {α : Type} {a : α} {P : α → Prop} : (∃ b, some a = some b ∧ P b) ↔ P a := ⟨fun ⟨b, h1, h2⟩ => by cases h1; exact h2, fun h => ⟨a, rfl, h⟩⟩
theorem exists_bool {a : Bool} {P : Bool → Prop} : (∃ t, Value.bool a = Value.bool t ∧ P t) ↔ P a := ⟨fun ⟨b, h1, h2⟩ => by cases h1; exact h2, fun h => ⟨a, rfl, h⟩⟩
end Go.Ab
namespace Go.Ab
theorem argR_zero {v : Value} {l : List Value} : argR (v :: l) 0 = v := rfl
theorem argR_succ {v : Value} {l : List Value} {i : Nat} : argR (v :: l) (i + 1) = argR l i := rfl
end Go.Ab
namespace Go.Ab
section
variable {l : Loc}
theorem c_int {k : IntKind} {n : Int} : l.ev (.const (.int k n)) = .int k n := rfl
theorem c_bool {b : Bool} : l.ev (.const (.bool b)) = .bool b := rfl
theorem c_string {s : ByteArray} : l.ev (.const (.string s)) = .string s := rfl
theorem c_nilp : l.ev (.const (.pointer none)) = .pointer none := rfl
theorem c_nils : l.ev (.const (.slice none 0 0)) = .slice none 0 0 := rfl
theorem c_nilm : l.ev (.const (.map none)) = .map none := rfl
theorem c_nilf : l.ev (.const .nilFunc) = .nilFunc := rfl
theorem c_nili : l.ev (.const .nilIface) = .nilIface := rfl
end
end Go.Ab
namespace Go.Ab
def one1 : Option (List Value) → Option Value
  | some [v] => some v
  | _ => none
theorem one1_some {v : Value} : one1 (some [v]) = some v := rfl
theorem loadV_flat {E : Env} {h : Hp} {t : TypeId} {b o : Nat} {s : Option Nat} (ht : E.agg t = some false) : loadV E h t (.pointer (some ⟨b, o, s⟩)) = one1 (h.load b o 1) := by
  simp only [loadV, ht]
  unfold one1
  rfl
theorem loadV_ptr {E : Env} {h : Hp} {t : TypeId} {b : Nat} (ht : E.agg t = some false) : loadV E h t (ptrTo b) = one1 (h.load b 0 1) := loadV_flat ht
end Go.Ab
namespace Go.Ab
/-! ### guards, new blocks, function values -/
def gv (want : Bool) : Option Value → Option Bool
  | some (.bool b) => some (bif b then want else !want)
  | some (.tuple _) => some false
  | _ => none
noncomputable def gj (want : Bool) (rg : Tr Value) : Option Oper → Option Bool
  | none => some false
  | some o => match o.dst with
    | none => some false
    | some d => gv want (rg.get d)
theorem guard_some {a : List Oper} {rg : Tr Value} {d : Option Tmp} {op : Op} {t : TypeId} {p : String} {af : Array Edge} {j : Nat} {want : Bool} : guardOk a rg ⟨d, op, t, p, af, some (j, want)⟩ = gj want rg (a[j]?) := by
  simp only [guardOk, gj]
  cases a[j]? with
  | none => rfl
  | some o =>
    simp only []
    cases o.dst with
    | none => rfl
    | some d =>
      simp only [gv]
      cases rg.get d with
      | none => rfl
      | some v => cases v <;> rfl
theorem gj_some {want : Bool} {rg : Tr Value} {d : Tmp} {op : Op} {t : TypeId} {p : String} {af : Array Edge} {g : Option (Nat × Bool)} : gj want rg (some ⟨some d, op, t, p, af, g⟩) = gv want (rg.get d) := rfl
theorem gv_true {b : Bool} : gv true (some (.bool b)) = some b := by cases b <;> rfl
theorem gv_false {b : Bool} : gv false (some (.bool b)) = some (!b) := by cases b <;> rfl
theorem gv_tuple {want : Bool} {x : Array Value} : gv want (some (.tuple x)) = some false := rfl
theorem u_not {b : Bool} : unP .not (.bool b) = some (.bool (!b)) := rfl
theorem stepN_call {E : Env} {K : Value → Hp → Prop} {f : FuncId} {args : List Value} {h : Hp} : StepN E K (some (.call f args, h)) ↔ CallQ E f args none h fun x _ h'' => match x with
    | .ret v => K v h''
    | .pan _ => False := Iff.rfl
theorem target_fn {g : FuncId} {a b : Array Value} {args : List Value} : target (.func (.func g) a b) args = some (.call g (a.toList ++ args ++ b.toList)) := rfl
theorem n_new {h : Hp} {x : Blk} : (h.new x).n = h.n + 1 := rfl
theorem callq_ret {E : Env} {f : FuncId} {args : List Value} {h : Hp} {P : Out → Option (Value × Bool) → Hp → Prop} {Q : Value → Hp → Prop} (hr : Ret E f args h Q) (hk : ∀ v h', Q v h' → P (.ret v) none h') : CallQ E f args none h P := by
  obtain ⟨v, h', a, b⟩ := hr
  exact ⟨_, _, _, a, hk v h' b⟩
/-- A call that leaves the heap but for new blocks, and answers v. -/
def Pure (E : Env) (f : FuncId) (args : List Value) (h : Hp) (v : Value) : Prop := Ret E f args h fun v' h' => v' = v ∧ Gr h h'
theorem callq_pure {E : Env} {f : FuncId} {args : List Value} {h : Hp} {v : Value} {P : Out → Option (Value × Bool) → Hp → Prop} (hr : Pure E f args h v) (hk : ∀ h', Gr h h' → P (.ret v) none h') : CallQ E f args none h P :=
  callq_ret hr fun v' h' ⟨e, g⟩ => by rw [e]; exact hk h' g
end Go.Ab
namespace Go.Ab
/-! ### loops, lengths, places -/
theorem run_unroll {E : Env} {cx : Cx} {Q : Post} {k : List Fr} {l : Loc} {h : Hp} {b : Code} : Run E (lim E) cx Q (.code (.loop b) :: k) .normal l h ↔ Run E (lim E) cx Q (.code b :: .code (.loop b) :: k) .normal l h := by
  rw [← run_seq]
  simp only [Run]
  have : codeStep E (lim E) cx (.loop b) l h = codeStep E (lim E) cx (.seq b (.loop b)) l h := by
    simp only [codeStep]
    cases codeStep E (lim E) cx b l h with
    | none => rfl
    | some q =>
      obtain ⟨e, l', h'⟩ := q
      cases e with
      | normal => show (lim E).code cx (.loop b) l' h' = _; rw [code_eq]; rfl
      | exit i => rfl
      | ret => rfl
      | pan v => rfl
  rw [this]
def lenK (r : Option (ANext × Hp)) (h : Hp) : Option Value → Option (ANext × Hp)
  | some v => some (.val v, h)
  | none => r
theorem lenK_some {r : Option (ANext × Hp)} {h : Hp} {v : Value} : lenK r h (some v) = some (.val v, h) := rfl
theorem o_lenK {E : Env} {ρ : Operand → Value} {h : Hp} {x : Operand} {t : TypeId} : aop E ρ h (.call ⟨.builtin .len, #[x], #[t]⟩) = lenK (match ρ x with
          | .map (some r) => match h.get r with
            | some (.map es _) => match E.und t with
                | some (.map _ _) => some (.val (.int .i64 (.ofNat es.length)), h)
                | _ => none
            | _ => none
          | _ => none) h (lenP E t (ρ x)) := by
  simp only [aop, pop]
  cases lenP E t (ρ x) with
  | some v => rfl
  | none =>
    simp only [lenK]
    cases ρ x <;> rfl
theorem natOf_nn {i : Int} (h : 0 ≤ i) : natOf i = some i.toNat := by
  cases i with
  | ofNat n => rfl
  | negSucc n => exact absurd h (by simp)
theorem idxP_in {k : IntKind} {i : Int} {n : Nat} (h0 : 0 ≤ i) (h1 : i < n) : idxP (.int k i) n = some i.toNat := by
  simp only [idxP, natOf_nn h0]
  have : Nat.blt i.toNat n = true := by rw [Nat.blt_eq]; omega
  rw [this]; rfl
theorem idxP_nat {k : IntKind} {i n : Nat} (h1 : i < n) : idxP (.int k (i : Int)) n = some i := by
  rw [idxP_in (Int.natCast_nonneg i) (by omega)]; simp
theorem ia_slice {E : Env} {t e : TypeId} {k : Nat} {a : Addr} {n c : Nat} {v : Value} (hu : E.und t = some (.slice e)) (hs : E.sz e = some k) : indexAddrP E t (.slice (some a) n c) v = (idxP v n).map fun i => .pointer (some (addrAdd a (i * k))) := by
  simp only [indexAddrP, hu, hs]
  cases idxP v n <;> rfl
theorem ia_array {E : Env} {t e : TypeId} {m k : Nat} {a : Addr} {v : Value} (hu : E.und t = some (.array m e)) (hs : E.sz e = some k) : indexAddrP E t (.pointer (some a)) v = (idxP v m).map fun i => .pointer (some (addrAdd a (i * k))) := by
  simp only [indexAddrP, hu, hs]
  cases idxP v m <;> rfl
theorem bs_ints {E : Env} {h : Hp} {t e : TypeId} {z : Value} {k0 k1 : IntKind} {a b : Int} (hu : E.und t = some (.slice e)) (hs : E.sz e = some 1) (hz : E.zero e = some [z]) :
    buildSliceV E h t 2 [(0, .int k0 a), (1, .int k1 b)] = some (h.new (.cells (Tr.ofList [.int k0 a, .int k1 b]) [Value.int k0 a, .int k1 b].length e 1), .slice (some ⟨h.n, 0, none⟩) 2 2) := by
  unfold buildSliceV
  simp only [hu, hs, hz]
  rfl
theorem load_new {h : Hp} (ok : h.t.Sized h.n) {l : List Value} {e md o n : Nat} (hn : o + n ≤ l.length) : (h.new (.cells (Tr.ofList l) l.length e md)).load h.n o n = some ((l.drop o).take n) := (row_new ok l e md).load hn
theorem load_old {h : Hp} (ok : h.t.Sized h.n) {x : Blk} {b o n : Nat} (hb : b < h.n) : (h.new x).load b o n = h.load b o n := by
  unfold Hp.load
  rw [h.get_new x ok, if_neg (by omega)]
end Go.Ab
namespace Go.Ab
theorem step_pure {E : Env} {cx : Cx} {o : Oper} {l : Loc} {K : Ex → Loc → Hp → Prop} {h : Hp} {f : FuncId} {args : List Value} {v : Value} (hr : Pure E f args h v) (hk : ∀ h', Gr h h' → K .normal (l.put o.dst v) h') : StepR E cx o l K (some (.call f args, h)) :=
  step_ret hr fun v' h' ⟨e, g⟩ => by rw [e]; exact hk h' g
theorem stepN_pure {E : Env} {K : Value → Hp → Prop} {f : FuncId} {args : List Value} {h : Hp} {v : Value} (hr : Pure E f args h v) (hk : ∀ h', Gr h h' → K v h') : StepN E K (some (.call f args, h)) :=
  stepN_ret hr fun v' h' ⟨e, g⟩ => by rw [e]; exact hk h' g
theorem Pure.of {E : Env} {f : FuncId} {args : List Value} {h : Hp} {v : Value} (hr : Ret E f args h fun v' h' => v' = v ∧ Gr h h') : Pure E f args h v := hr
end Go.Ab
namespace Go.Ab
/-! ### steps whose branches are not looked into before their tests are known -/
section
variable (E : Env) (cx : Cx) (Q : Post)
def GStep (a : List Oper) (o : Oper) (os : List Oper) (k : List Fr) (l : Loc) (h : Hp) : Option Bool → Prop
  | some true => StepR E cx o l (fun e l' h' => Run E (lim E) cx Q (.ops a os :: k) e l' h') (aop E l.ev h o.op)
  | some false => Run E (lim E) cx Q (.ops a os :: k) .normal (l.put o.dst (.tuple #[])) h
  | none => False
def CStep (a b : Code) (k : List Fr) (l : Loc) (h : Hp) : Value → Prop
  | .bool true => Run E (lim E) cx Q (.code a :: k) .normal l h
  | .bool false => Run E (lim E) cx Q (.code b :: k) .normal l h
  | _ => False
def DStepQ (a : List Oper) (q : Nat) (ps : List (Nat × Nat)) (o : Oper) (os : List Oper) (i : Nat) (tr : List (Nat × Nat)) (k : List Fr) (l : Loc) (h : Hp) : Option Bool → Bool → Prop
  | some true, false => StepN E (fun v h' => Run E (lim E) cx Q (.opsD a q ps os (i + 1) (noted i tr (touch l.ev o.op)) :: k) .normal (l.put o.dst v) h') (aop E l.ev h o.op)
  | some true, true => StepN E (fun v h' => Nat.ble h.n h'.lo = true ∧ Run E (lim E) cx Q (.opsD a q ps os (i + 1) (noted i tr (touch l.ev o.op)) :: k) .normal (l.put o.dst v) { h' with lo := h.lo }) (aop E l.ev { h with lo := h.n } o.op)
  | some false, _ => Run E (lim E) cx Q (.opsD a q ps os (i + 1) tr :: k) .normal (l.put o.dst (.tuple #[])) h
  | none, _ => False
end
section
variable {E : Env} {cx : Cx} {Q : Post} {k : List Fr} {l : Loc} {h : Hp}
theorem r_ops {a os : List Oper} {o : Oper} : Run E (lim E) cx Q (.ops a (o :: os) :: k) .normal l h ↔ GStep E cx Q a o os k l h (guardOk a l.regs o) := by
  rw [run_ops_cons]
  cases guardOk a l.regs o with
  | none => exact ⟨fun ⟨_, e, _⟩ => (by cases e), fun h => h.elim⟩
  | some b =>
    rw [exists_some]
    cases b with
    | true => rw [if_pos rfl]; exact then_step
    | false => rw [if_neg (by simp)]; exact Iff.rfl
theorem g_true {a os : List Oper} {o : Oper} : GStep E cx Q a o os k l h (some true) ↔ StepR E cx o l (fun e l' h' => Run E (lim E) cx Q (.ops a os :: k) e l' h') (aop E l.ev h o.op) := Iff.rfl
theorem g_false {a os : List Oper} {o : Oper} : GStep E cx Q a o os k l h (some false) ↔ Run E (lim E) cx Q (.ops a os :: k) .normal (l.put o.dst (.tuple #[])) h := Iff.rfl
theorem r_cond {c : Operand} {a b : Code} : Run E (lim E) cx Q (.code (.cond c a b) :: k) .normal l h ↔ CStep E cx Q a b k l h (l.ev c) := by
  rw [run_cond]
  cases l.ev c <;> (try (exact ⟨fun ⟨_, e, _⟩ => (by cases e), fun h => h.elim⟩))
  rename_i t
  rw [exists_bool]
  cases t with
  | true => rw [if_pos rfl]; exact Iff.rfl
  | false => rw [if_neg (by simp)]; exact Iff.rfl
theorem c_true {a b : Code} : CStep E cx Q a b k l h (.bool true) ↔ Run E (lim E) cx Q (.code a :: k) .normal l h := Iff.rfl
theorem c_false {a b : Code} : CStep E cx Q a b k l h (.bool false) ↔ Run E (lim E) cx Q (.code b :: k) .normal l h := Iff.rfl
theorem r_opsD {a os : List Oper} {o : Oper} {q i : Nat} {ps tr : List (Nat × Nat)} : Run E (lim E) cx Q (.opsD a q ps (o :: os) i tr :: k) .normal l h ↔ DStepQ E cx Q a q ps o os i tr k l h (guardOk a l.regs o) (hush E q i o.op) := by
  rw [run_opsD]
  cases guardOk a l.regs o with
  | none => exact ⟨fun ⟨_, e, _⟩ => (by cases e), fun h => h.elim⟩
  | some b =>
    rw [exists_some]
    cases b with
    | true =>
      rw [if_pos rfl]
      cases hush E q i o.op with
      | true => rw [if_pos rfl]; exact Iff.rfl
      | false => rw [if_neg (by simp)]; exact Iff.rfl
    | false => rw [if_neg (by simp)]; exact Iff.rfl
theorem d_loud {a os : List Oper} {o : Oper} {q i : Nat} {ps tr : List (Nat × Nat)} : DStepQ E cx Q a q ps o os i tr k l h (some true) false ↔ StepN E (fun v h' => Run E (lim E) cx Q (.opsD a q ps os (i + 1) (noted i tr (touch l.ev o.op)) :: k) .normal (l.put o.dst v) h') (aop E l.ev h o.op) := Iff.rfl
theorem d_quiet {a os : List Oper} {o : Oper} {q i : Nat} {ps tr : List (Nat × Nat)} : DStepQ E cx Q a q ps o os i tr k l h (some true) true ↔ StepN E (fun v h' => Nat.ble h.n h'.lo = true ∧ Run E (lim E) cx Q (.opsD a q ps os (i + 1) (noted i tr (touch l.ev o.op)) :: k) .normal (l.put o.dst v) { h' with lo := h.lo }) (aop E l.ev { h with lo := h.n } o.op) := Iff.rfl
theorem d_skip {a os : List Oper} {o : Oper} {q i : Nat} {ps tr : List (Nat × Nat)} {b : Bool} : DStepQ E cx Q a q ps o os i tr k l h (some false) b ↔ Run E (lim E) cx Q (.opsD a q ps os (i + 1) tr :: k) .normal (l.put o.dst (.tuple #[])) h := Iff.rfl
theorem noted_none {i : Nat} {tr : List (Nat × Nat)} : noted i tr none = tr := rfl
theorem noted_some {i b : Nat} {tr : List (Nat × Nat)} : noted i tr (some b) = (i, b) :: tr := rfl
theorem pairs_nil {tr : List (Nat × Nat)} : pairsOk tr [] = true := rfl
theorem guard_no {a : List Oper} {rg : Tr Value} {d : Option Tmp} {op : Op} {t : TypeId} {p : String} {af : Array Edge} : guardOk a rg ⟨d, op, t, p, af, none⟩ = some true := rfl
end
end Go.Ab
namespace Go.Ab
theorem b_eqlB {E : Env} {t : TypeId} {x y : Operand} {a b : Bool} (hu : E.und t = some .bool) : binP E .eql t x y (.bool a) (.bool b) = some (.bool (bif a then b else !b)) := by
  simp [binP, eqTop, eqIn, hu]
theorem b_neqB {E : Env} {t : TypeId} {x y : Operand} {a b : Bool} (hu : E.und t = some .bool) : binP E .neq t x y (.bool a) (.bool b) = some (.bool (!(bif a then b else !b))) := by
  simp [binP, eqTop, eqIn, hu]
theorem same_bool {d : Bool} : (bif d then d else !d) = true := by cases d <;> rfl
end Go.Ab
namespace Go.Ab
/-! ### new blocks, by their rows -/
noncomputable def boxR (h : Hp) (t : TypeId) : Value → Option (ANext × Hp)
  | .chan _ => none
  | v => some (.val (ptrTo h.n), h.new (.cells (Tr.ofList (vcells v)) (vcells v).length t 1))
theorem o_boxR {E : Env} {ρ : Operand → Value} {h : Hp} {t : TypeId} {x : Operand} : aop E ρ h (.box t x) = boxR h t (ρ x) := by
  simp only [aop]; cases ρ x <;> rfl
noncomputable def allocR (h : Hp) (t : TypeId) : Option (List Value) → Option (ANext × Hp)
  | none => none
  | some z => some (.val (ptrTo h.n), h.new (.cells (Tr.ofList z) z.length t 1))
theorem o_allocR {E : Env} {ρ : Operand → Value} {h : Hp} {t : TypeId} : aop E ρ h (.alloc t) = allocR h t (E.zero t) := by
  simp only [aop]; cases E.zero t <;> rfl
section
variable {E : Env} {cx : Cx} {o : Oper} {l : Loc} {K : Ex → Loc → Hp → Prop} {h : Hp}
theorem row_new' {h : Hp} (ok : h.t.Sized h.n) (l : List Value) (t : TypeId) : Gr h (h.new (.cells (Tr.ofList l) l.length t 1)) ∧ Row (h.new (.cells (Tr.ofList l) l.length t 1)) h.n l 1 := ⟨Gr.new ok _, row_new ok l t 1⟩
theorem step_box {v : Value} {t : TypeId} (ok : h.t.Sized h.n) (hv : ∀ x, v ≠ .chan x) (hk : ∀ h' b, Gr h h' → Row h' b (vcells v) 1 → h.n ≤ b → h'.n = b + 1 → K .normal (l.put o.dst (ptrTo b)) h') : StepR E cx o l K (boxR h t v) := by
  have := hk _ _ (row_new' ok (vcells v) t).1 (row_new' ok (vcells v) t).2 (Nat.le_refl _) rfl
  cases v <;> first | exact this | exact absurd rfl (hv _)
theorem step_alloc {z : List Value} {t : TypeId} (ok : h.t.Sized h.n) (hk : ∀ h' b, Gr h h' → Row h' b z 1 → h.n ≤ b → h'.n = b + 1 → K .normal (l.put o.dst (ptrTo b)) h') : StepR E cx o l K (allocR h t (some z)) :=
  hk _ _ (row_new' ok z t).1 (row_new' ok z t).2 (Nat.le_refl _) rfl
theorem stepN_box {KN : Value → Hp → Prop} {v : Value} {t : TypeId} (ok : h.t.Sized h.n) (hv : ∀ x, v ≠ .chan x) (hk : ∀ h' b, Gr h h' → Row h' b (vcells v) 1 → h.n ≤ b → h'.n = b + 1 → KN (ptrTo b) h') : StepN E KN (boxR h t v) := by
  have := hk _ _ (row_new' ok (vcells v) t).1 (row_new' ok (vcells v) t).2 (Nat.le_refl _) rfl
  cases v <;> first | exact this | exact absurd rfl (hv _)
theorem draw_step {Q : Post} {k : List Fr} {id : Nat} {ops : Array Oper} {q : Nat} {ps : List (Nat × Nat)} (hp : plan E ops.toList = some (q, ps)) (hr : Run E (lim E) cx Q (.opsD ops.toList q ps ops.toList 0 [] :: k) .normal l h) : Run E (lim E) cx Q (.code (.region id ops true) :: k) .normal l h := (run_draw hp).2 hr
end
theorem b_shr1 {E : Env} {t : TypeId} {x y : Operand} {k k' : IntKind} {m : Int} (hm : 0 ≤ m) : binP E .shr t x y (.int k m) (.int k' 1) = some (.int k (m / 2)) := by
  have hb : Nat.ble 1 (bitsOf k) = true := by cases k <;> rfl
  have h1 : natOf 1 = some 1 := rfl
  simp only [binP, shiftI, h1, hb, cond_true, Option.map_some]
  cases m with
  | ofNat n => rfl
  | negSucc n => exact absurd hm (by simp)
theorem quiet_ok {h h' : Hp} (g : Gr { h with lo := h.n } h') : Nat.ble h.n h'.lo = true := g.hlo
theorem ok_lo {h : Hp} (ok : h.t.Sized h.n) (x : Nat) : ({ h with lo := x } : Hp).t.Sized ({ h with lo := x } : Hp).n := ok
theorem gr_lo {h h' : Hp} (g : Gr { h with lo := h.n } h') : Gr h { h' with lo := h.lo } :=
  ⟨g.ok0, g.ok, g.n, g.get, fun _ _ h => h⟩
end Go.Ab
namespace Go.Ab
theorem hush_s {E : Env} {q i : Nat} {op : Op} : hush E q i op = (decide (q / 2 ^ i % 2 = 1) && decide (3 ≤ cls E op)) := by
  unfold hush
  rw [Nat.testBit_eq_decide_div_mod_eq, nble_eq]
end Go.Ab
namespace Go.Ab
theorem stepN_quiet {E : Env} {K : Value → Hp → Prop} {f : FuncId} {args : List Value} {h : Hp} {v : Value} (hr : Pure E f args { h with lo := h.n } v) (hk : ∀ h', Gr h h' → K v h') :
    StepN E (fun v h' => Nat.ble h.n h'.lo = true ∧ K v { h' with lo := h.lo }) (some (.call f args, { h with lo := h.n })) :=
  stepN_pure hr fun h' g => ⟨quiet_ok g, hk _ (gr_lo g)⟩
end Go.Ab
namespace Go.Ab
section
variable (E : Env) (cx : Cx) (Q : Post) (a : List Oper) (q : Nat) (ps : List (Nat × Nat)) (o : Oper) (os : List Oper) (i : Nat) (k : List Fr) (l : Loc)
def DN (tr : List (Nat × Nat)) (x : Option (ANext × Hp)) : Prop := StepN E (fun v h' => Run E (lim E) cx Q (.opsD a q ps os (i + 1) tr :: k) .normal (l.put o.dst v) h') x
def DQ (h : Hp) (tr : List (Nat × Nat)) (x : Option (ANext × Hp)) : Prop := StepN E (fun v h' => Nat.ble h.n h'.lo = true ∧ Run E (lim E) cx Q (.opsD a q ps os (i + 1) tr :: k) .normal (l.put o.dst v) { h' with lo := h.lo }) x
end
section
variable {E : Env} {cx : Cx} {Q : Post} {a : List Oper} {q : Nat} {ps : List (Nat × Nat)} {o : Oper} {os : List Oper} {i : Nat} {k : List Fr} {l : Loc} {h : Hp} {tr : List (Nat × Nat)}
theorem dn_loud : DStepQ E cx Q a q ps o os i tr k l h (some true) false ↔ DN E cx Q a q ps o os i k l (noted i tr (touch l.ev o.op)) (aop E l.ev h o.op) := Iff.rfl
theorem dn_quiet : DStepQ E cx Q a q ps o os i tr k l h (some true) true ↔ DQ E cx Q a q ps o os i k l h (noted i tr (touch l.ev o.op)) (aop E l.ev { h with lo := h.n } o.op) := Iff.rfl
theorem dn_val {v : Value} {h' : Hp} : DN E cx Q a q ps o os i k l tr (some (.val v, h')) ↔ Run E (lim E) cx Q (.opsD a q ps os (i + 1) tr :: k) .normal (l.put o.dst v) h' := Iff.rfl
theorem dn_skip {h' : Hp} : DN E cx Q a q ps o os i k l tr (some (.skip, h')) ↔ Run E (lim E) cx Q (.opsD a q ps os (i + 1) tr :: k) .normal (l.put o.dst (.tuple #[])) h' := Iff.rfl
theorem dn_ret {f : FuncId} {args : List Value} {P : Value → Hp → Prop} (hr : Ret E f args h P) (hk : ∀ v h', P v h' → Run E (lim E) cx Q (.opsD a q ps os (i + 1) tr :: k) .normal (l.put o.dst v) h') : DN E cx Q a q ps o os i k l tr (some (.call f args, h)) := stepN_ret hr hk
theorem dn_pure {f : FuncId} {args : List Value} {v : Value} (hr : Pure E f args h v) (hk : ∀ h', Gr h h' → Run E (lim E) cx Q (.opsD a q ps os (i + 1) tr :: k) .normal (l.put o.dst v) h') : DN E cx Q a q ps o os i k l tr (some (.call f args, h)) := stepN_pure hr hk
theorem dq_pure {f : FuncId} {args : List Value} {v : Value} (hr : Pure E f args { h with lo := h.n } v) (hk : ∀ h', Gr h h' → Run E (lim E) cx Q (.opsD a q ps os (i + 1) tr :: k) .normal (l.put o.dst v) h') : DQ E cx Q a q ps o os i k l h tr (some (.call f args, { h with lo := h.n })) := stepN_quiet hr hk
theorem dq_ret {f : FuncId} {args : List Value} {P : Value → Hp → Prop} (hr : Ret E f args { h with lo := h.n } fun v h' => Gr { h with lo := h.n } h' ∧ P v { h' with lo := h.lo }) (hk : ∀ v h', Gr h h' → P v h' → Run E (lim E) cx Q (.opsD a q ps os (i + 1) tr :: k) .normal (l.put o.dst v) h') : DQ E cx Q a q ps o os i k l h tr (some (.call f args, { h with lo := h.n })) :=
  stepN_ret hr fun v h' ⟨g, p⟩ => ⟨quiet_ok g, hk v _ (gr_lo g) p⟩
theorem dq_box {v : Value} {t : TypeId} (ok : h.t.Sized h.n) (hv : ∀ x, v ≠ .chan x) (hk : ∀ h' b, Gr h h' → Row h' b (vcells v) 1 → h.n ≤ b → h'.n = b + 1 → Run E (lim E) cx Q (.opsD a q ps os (i + 1) tr :: k) .normal (l.put o.dst (ptrTo b)) h') : DQ E cx Q a q ps o os i k l h tr (boxR { h with lo := h.n } t v) := by
  refine stepN_box (h := { h with lo := h.n }) ok hv fun h' b g r h1 h2 => ⟨quiet_ok g, hk _ b (gr_lo g) ?_ h1 h2⟩
  obtain ⟨t, el, x, y, z⟩ := r
  exact ⟨t, el, x, y, z⟩
end
end Go.Ab
namespace Go.Ab
theorem ptr_eq {b : Nat} : ptrTo b = .pointer (some ⟨b, 0, none⟩) := rfl
end Go.Ab

/- From a run of the evaluator to a law. -/
namespace Go.Ab
open Go.ChangeShapes Go.WideShapes Go.RowKit

theorem len3 {α : Type} {l : List α} (h : l.length = 3) : ∃ a b c, l = [a, b, c] := by
  match l, h with
  | [a, b, c], _ => exact ⟨a, b, c, rfl⟩
theorem len4 {α : Type} {l : List α} (h : l.length = 4) : ∃ a b c d, l = [a, b, c, d] := by
  match l, h with
  | [a, b, c, d], _ => exact ⟨a, b, c, d, rfl⟩
theorem len2 {α : Type} {l : List α} (h : l.length = 2) : ∃ a b, l = [a, b] := by
  match l, h with
  | [a, b], _ => exact ⟨a, b, rfl⟩
theorem below_of_ext {w w' : World} {mu' : Mu} {h' : Hp} (e : Ext mu0 hp0 w mu' h' w') : Below w.heap.size w w' :=
  ⟨e.os, e.tape, e.output, e.wsize, fun c hc => e.frame c hc (by intro b base top h; unfold mu0 at h; split at h <;> cases h)⟩
theorem hp0_ok : hp0.t.Sized hp0.n := (hrel0 default).sized

/-- The model follows a run that leaves old memory alone. -/
theorem calls_pure {E : Env} {P : Program} (ok : EOk E P) {f : FuncId} {args : List Value} {args' : Array Value} (ha : VL mu0 args args'.toList) (hr : Pure E f args hp0 (.bool true)) (w : World) :
    Calls P f args' w fun e w' => e = .returned (.bool true) ∧ Below w.heap.size w w' := by
  obtain ⟨v, h', hl, rfl, g⟩ := hr
  intro cs
  obtain ⟨_, h1⟩ := lim_ok ok _ _ _ _ _ _ _ hl
  obtain ⟨mu', w', rcC', fr, k1, k2, k3, k4, k5, k6, k7⟩ := h1 mu0 w args' none cs .normal (hrel0 w) glob0 ha trivial (.inl rfl)
  have := k4.normal
  subst this
  obtain ⟨v', l1, l2⟩ := k6
  cases l2
  obtain ⟨fn, r1, r2⟩ := l1.res
  exact ⟨.returned (.bool true), w', fr, ⟨rfl, below_of_ext k2⟩, k5, k7, l1.mode, l1.defers, l1.kind, fn, r1, r2⟩

section
variable {H : Type} {enc : TypeId × Value → H} {P : Program}
theorem below_trodAll (hl : laidOutB P = true) {W W' : World} (hb : Below W.heap.size W W') : ∀ {ts : List TypeId} {vs : List Value} {ds : List (DataW H)} {ps : List MemPlace}, (ts.all fun t => P.readableRec t && decide (t < P.types.size)) = true →
    DataW.TrodAll enc P W 0 (fun _ => true) true ts vs ds ps → (∀ x ∈ ps, x.block < W.heap.size) → DataW.TrodAll enc P W' 0 (fun b => decide (b < W.heap.size)) true ts vs ds ps
  | [], vs, ds, ps, _, h, _ => by
    obtain ⟨rfl, rfl, rfl⟩ := trodAll_nil h
    exact rfl
  | t :: ts, vs, ds, ps, hts, h, hlt => by
    obtain ⟨v, vs1, d, ds1, p, q, rfl, rfl, rfl, h1, h2⟩ := trodAll_cons h
    simp only [List.all_cons, Bool.and_eq_true, decide_eq_true_eq] at hts
    exact ⟨p, q, Below.trod hl hts.1.1 hts.1.2 h1 hb (fun x hx => hlt x (by simp [hx])), below_trodAll hl hb hts.2 h2 (fun x hx => hlt x (by simp [hx])), rfl⟩
theorem post_of_below {f : Func} {s : ChangeSpec} {apart handsOn : Bool} {W W' : World} {args : Array Value} {ds : List (DataW H)} {before : List MemPlace} {bt : TypeId}
    (hl : laidOutB P = true) (hts : (f.params.toList.all fun t => P.readableRec t && decide (t < P.types.size)) = true) (hv : s.vars = [])
    (hW : DataW.Whole enc P f.params.toList s.vars apart W args.toList ds [] before) (hfn : s.fn H (ds ++ []) = { results := [.lit (.bool true)], args := ds }) (hb : Below W.heap.size W W')
    (hbt : P.underlying bt = some .bool) (hrt : f.resultTypes = #[bt]) :
    s.post enc P f apart true handsOn false W args (.bool true) W' := by
  have hlt := hW.lt
  have hW' := hW
  obtain ⟨p, q, hA, hV, rfl, hz, hn⟩ := hW
  rw [hv] at hV
  obtain ⟨_, rfl⟩ := trodVars_none hV
  refine ⟨ds, [], _, [], p, [], hW', ?_, ?_, ?_, ⟨hb.os, hb.output, fun i hi => ?_⟩, fun h => by cases h⟩
  · rw [hfn, hrt]
    exact trodAll_cons_mk (shut_bool hbt _) trodAll_mk0
  · rw [hfn]
    exact below_trodAll hl hb hts hA (fun x hx => hlt x (by simpa using hx))
  · rw [hfn, hv]; rfl
  · rw [hb.block i hi]
    split
    · rename_i h1 h2; rw [h1] at h2; cases h2; exact ⟨rfl, rfl, rfl, fun _ _ => rfl⟩
    · rename_i h1 h2; rw [h1] at h2; cases h2; exact .inr ⟨rfl, rfl⟩
    · rfl

theorem nums_of {k : IntKind} : ∀ (l : List Value), (∀ i, i < l.length → ∃ z, (l.drop i).take 1 = [.int k z] ∧ (Lit.int k z).wf = true) → ∃ ns : List Int, l = ns.map (.int k) ∧ ∀ x ∈ ns, (Lit.int k x).wf = true
  | [], _ => ⟨[], rfl, fun x hx => by cases hx⟩
  | v :: l, h => by
    obtain ⟨z, h1, h2⟩ := h 0 (by simp)
    obtain ⟨ns, h3, h4⟩ := nums_of l (fun i hi => by have := h (i + 1) (by simp; omega); simpa using this)
    simp at h1
    refine ⟨z :: ns, by rw [h1, h3]; rfl, fun x hx => ?_⟩
    rcases List.mem_cons.1 hx with rfl | hx
    · exact h2
    · exact h4 x hx
theorem bools_of : ∀ (l : List Value), (∀ i, i < l.length → ∃ z, (l.drop i).take 1 = [.bool z]) → ∃ ns : List Bool, l = ns.map .bool
  | [], _ => ⟨[], rfl⟩
  | v :: l, h => by
    obtain ⟨z, h1⟩ := h 0 (by simp)
    obtain ⟨ns, h3⟩ := bools_of l (fun i hi => by have := h (i + 1) (by simp; omega); simpa using this)
    simp at h1
    exact ⟨z :: ns, by rw [h1, h3]; rfl⟩
/-- An array of numbers, opened. -/
theorem open_nums {W : World} {base n : Nat} {t e : TypeId} {k : IntKind} {v : Value} {d : DataW H} {p : List MemPlace} {sp : Nat → Bool} {hd : Bool} (ht : P.underlying t = some (.array n e)) (he : P.underlying e = some (.int k)) (hc : P.cellsOf e = 1) (hn : P.cellsOf t = n)
    (hval : Value.okWide P W .any base t v) (h : DataW.Trod enc P W 0 sp hd t v d p) : ∃ ns : List Int, v = .agg ⟨ns.map (.int k)⟩ ∧ ns.length = n ∧ ∀ x ∈ ns, (Lit.int k x).wf = true := by
  unfold Value.okWide at hval
  rw [ht] at hval
  obtain ⟨cs, rfl, _, _⟩ := hval
  obtain ⟨fuel, h⟩ := h
  obtain ⟨xs, m, rfl, _, hlen, hxl, hel⟩ := DataW.trod_array ht h
  have hl2 : cs.toList.length = n := by rw [← hn]; exact hlen
  obtain ⟨ns, h1, h2⟩ := nums_of cs.toList (fun i hi => by
    have h3 := hel i (by omega)
    rw [hc, Nat.mul_one] at h3
    have h4 : xs[i]? = some xs[i] := List.getElem?_eq_getElem (by omega)
    rw [h4] at h3
    obtain ⟨z, e1, _, e3⟩ := DataW.trod_int he h3
    exact ⟨z, e1, e3⟩)
  refine ⟨ns, ?_, ?_, h2⟩
  · congr 1
    apply Array.ext'
    exact h1
  · have := congrArg List.length h1
    simp at this
    simp at hl2
    omega
theorem open_bools {W : World} {base n : Nat} {t e : TypeId} {v : Value} {d : DataW H} {p : List MemPlace} {sp : Nat → Bool} {hd : Bool} (ht : P.underlying t = some (.array n e)) (he : P.underlying e = some .bool) (hc : P.cellsOf e = 1) (hn : P.cellsOf t = n)
    (hval : Value.okWide P W .any base t v) (h : DataW.Trod enc P W 0 sp hd t v d p) : ∃ ns : List Bool, v = .agg ⟨ns.map .bool⟩ ∧ ns.length = n := by
  unfold Value.okWide at hval
  rw [ht] at hval
  obtain ⟨cs, rfl, _, _⟩ := hval
  obtain ⟨fuel, h⟩ := h
  obtain ⟨xs, m, rfl, _, hlen, hxl, hel⟩ := DataW.trod_array ht h
  have hl2 : cs.toList.length = n := by rw [← hn]; exact hlen
  obtain ⟨ns, h1⟩ := bools_of cs.toList (fun i hi => by
    have h3 := hel i (by omega)
    rw [hc, Nat.mul_one] at h3
    have h4 : xs[i]? = some xs[i] := List.getElem?_eq_getElem (by omega)
    rw [h4] at h3
    obtain ⟨z, e1, _⟩ := DataW.trod_bool he h3
    exact ⟨z, e1⟩)
  refine ⟨ns, ?_, ?_⟩
  · congr 1
    apply Array.ext'
    exact h1
  · have := congrArg List.length h1
    simp at this
    simp at hl2
    omega
theorem vrel_ints (mu : Mu) (k : IntKind) (ns : List Int) : VRel mu (.agg ⟨ns.map (.int k)⟩) (.agg ⟨ns.map (.int k)⟩) := by
  refine .agg rfl fun i v v' h1 h2 => ?_
  rw [h1] at h2; cases h2
  simp only [List.getElem?_map, Option.map_eq_some_iff] at h1
  obtain ⟨a, _, rfl⟩ := h1
  exact .int _ _
theorem vrel_bools (mu : Mu) (ns : List Bool) : VRel mu (.agg ⟨ns.map .bool⟩) (.agg ⟨ns.map .bool⟩) := by
  refine .agg rfl fun i v v' h1 h2 => ?_
  rw [h1] at h2; cases h2
  simp only [List.getElem?_map, Option.map_eq_some_iff] at h1
  obtain ⟨a, _, rfl⟩ := h1
  exact .bool _
end
end Go.Ab
