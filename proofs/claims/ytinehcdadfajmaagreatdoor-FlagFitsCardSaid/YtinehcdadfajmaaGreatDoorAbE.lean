/- A deterministic evaluator of the model's code, and that the model follows it (part 5). -/
import Derived.Test.YtinehcdadfajmaaGreatDoorAbD
import Derived.ChangeSame
import Derived.RowKit3
import Derived.JoinedOf
import Derived.KernelRfl
import Derived.WalkKit
import Derived.ProofKit
import Derived.OpenShut
import Derived.Carry
set_option maxHeartbeats 400000
set_option linter.defProp false
set_option linter.unusedVariables false
set_option linter.unusedSimpArgs false
/- Reasoning on the evaluator: a stack of code, registers as a function. -/
namespace Go.Ab

/-! ### registers -/
def tabF : Nat → Nat → (Nat → Value) → Tr Value
  | 0, _, _ => .nil
  | f + 1, n, ρ => match n with
    | 0 => .nil
    | k + 1 => .node (ρ 0) (tabF f ((k + 1) / 2) fun i => ρ (2 * i + 1)) (tabF f (k / 2) fun i => ρ (2 * i + 2))
def tab (n : Nat) (ρ : Nat → Value) : Tr Value := tabF n n ρ
theorem get_tabF (f n : Nat) (ρ : Nat → Value) (h : n ≤ f) (j : Nat) : (tabF f n ρ).get j = if j < n then some (ρ j) else none := by
  induction f generalizing n j ρ with
  | zero => have : n = 0 := by omega
            subst this; simp [tabF, Tr.get_nil]
  | succ f ih =>
    cases n with
    | zero => simp [tabF, Tr.get_nil]
    | succ k =>
      simp only [tabF]
      rw [Tr.get_node]
      cases j with
      | zero => simp
      | succ m =>
        simp only []
        by_cases hm : m % 2 = 0
        · simp only [hm, if_true]; rw [ih _ _ (by omega) (m / 2)]
          have : m / 2 < (k + 1) / 2 ↔ m + 1 < k + 1 := by omega
          simp only [this, show 2 * (m / 2) + 1 = m + 1 by omega]
        · simp only [hm, if_false]; rw [ih _ _ (by omega) (m / 2)]
          have : m / 2 < k / 2 ↔ m + 1 < k + 1 := by omega
          simp only [this, show 2 * (m / 2) + 2 = m + 1 by omega]
theorem get_tab (n : Nat) (ρ : Nat → Value) (j : Nat) : (tab n ρ).get j = if j < n then some (ρ j) else none := get_tabF n n ρ (Nat.le_refl _) j
theorem sized_tab (n : Nat) (ρ : Nat → Value) : (tab n ρ).Sized n := by
  intro j; rw [get_tab]; split <;> simp_all
theorem Tr.ext {α : Type} {t t' : Tr α} (h : ∀ i, t.get i = t'.get i) : t = t' := by
  induction t generalizing t' with
  | nil =>
    cases t' with
    | nil => rfl
    | node y l r => have := h 0; simp [Tr.get_nil, Tr.get_node] at this
  | node x l r ihl ihr =>
    cases t' with
    | nil => have := h 0; simp [Tr.get_nil, Tr.get_node] at this
    | node y l' r' =>
      have h0 := h 0
      simp [Tr.get_node] at h0
      subst h0
      rw [ihl (t' := l') (fun i => by have := h (2 * i + 1); simp only [Tr.get_node] at this; rw [if_pos (by omega), if_pos (by omega), show 2 * i / 2 = i by omega] at this; exact this),
        ihr (t' := r') (fun i => by have := h (2 * i + 2); simp only [Tr.get_node] at this; rw [if_neg (by omega), if_neg (by omega), show (2 * i + 1) / 2 = i by omega] at this; exact this)]

def setR (ρ : Nat → Value) (t : Nat) (v : Value) : Nat → Value := fun i => if i = t then v else ρ i
theorem setR_at (ρ : Nat → Value) (t : Nat) (v : Value) (i : Nat) : setR ρ t v i = if i = t then v else ρ i := rfl
theorem tab_set (n : Nat) (ρ : Nat → Value) (t : Nat) (v : Value) : (tab n ρ).set t v = tab n (setR ρ t v) := by
  apply Tr.ext
  intro i
  rw [Tr.get_set, get_tab, get_tab]
  by_cases hi : i < n
  · by_cases e : t = i
    · subst e; simp [hi, setR]
    · simp [hi, e, setR, Ne.symm e]
  · simp [hi]
theorem tab_of {t : Tr Value} {n : Nat} (h : t.Sized n) : t = tab n fun i => (t.get i).getD (.tuple #[]) := by
  apply Tr.ext
  intro i
  rw [get_tab]
  by_cases hi : i < n
  · obtain ⟨v, hv⟩ := Tr.get_some h hi
    simp [hi, hv]
  · rw [if_neg hi]; exact Tr.get_none h (by omega)
def argR : List Value → Nat → Value
  | [], _ => .tuple #[]
  | v :: l, i => match i with
    | 0 => v
    | i + 1 => argR l i
theorem argR_eq (l : List Value) (i : Nat) : argR l i = (l[i]?).getD (.tuple #[]) := by
  induction l generalizing i with
  | nil => rfl
  | cons v l ih => cases i with
    | zero => rfl
    | succ i => simp [argR, ih]
theorem args_tab {n : Nat} {args : List Value} (h : args.length ≤ n) : (Tr.blank (.tuple #[]) n n : Tr Value).setAll 0 args = tab n (argR args) := by
  apply Tr.ext
  intro i
  rw [Tr.get_setAll _ 0 args n (Tr.sized_blank _ _ _ (Nat.le_refl _)) (by omega), get_tab, Tr.get_blank _ _ _ (Nat.le_refl _), argR_eq]
  by_cases hi : i < args.length
  · rw [if_pos ⟨Nat.zero_le _, by omega⟩, if_pos (by omega)]; simp [hi]
  · rw [if_neg (by omega)]
    by_cases hn : i < n
    · simp [hn]; rw [List.getElem?_eq_none (by omega)]; rfl
    · simp [hn]

/-- A frame's registers, deferred calls, and what may be recovered. -/
def LL (n : Nat) (ρ : Nat → Value) (d : List Deferred) (rc : Option (Value × Bool)) : Loc := ⟨tab n ρ, d, rc⟩
theorem ll_put (n : Nat) (ρ : Nat → Value) (d : List Deferred) (rc : Option (Value × Bool)) (t : Nat) (v : Value) : (LL n ρ d rc).put (some t) v = LL n (setR ρ t v) d rc := by
  simp only [LL, Loc.put, tab_set]
theorem ll_put0 (l : Loc) (v : Value) : l.put none v = l := rfl
theorem ll_tmp (n : Nat) (ρ : Nat → Value) (d : List Deferred) (rc : Option (Value × Bool)) (t : Nat) (h : t < n) : (LL n ρ d rc).ev (.tmp t) = ρ t := by
  simp only [LL, Loc.ev, get_tab, if_pos h]
theorem ll_const (l : Loc) (v : Value) (h : okConst v = true) : l.ev (.const v) = v := by simp only [Loc.ev, h, cond_true]
theorem ll_func (l : Loc) (f : Nat) : l.ev (.func f) = .func (.func f) #[] #[] := rfl
theorem ll_regs (n : Nat) (ρ : Nat → Value) (d : List Deferred) (rc : Option (Value × Bool)) : (LL n ρ d rc).regs = tab n ρ := rfl
theorem ll_dfs (n : Nat) (ρ : Nat → Value) (d : List Deferred) (rc : Option (Value × Bool)) : (LL n ρ d rc).dfs = d := rfl
theorem ll_rc (n : Nat) (ρ : Nat → Value) (d : List Deferred) (rc : Option (Value × Bool)) : (LL n ρ d rc).rc = rc := rfl

/-! ### a stack of code -/
/-- What becomes of a step's answer. -/
def Then (x : Option (Ex × Loc × Hp)) (K : Ex → Loc → Hp → Prop) : Prop := ∃ e l h, x = some (e, l, h) ∧ K e l h
theorem then_some {e : Ex} {l : Loc} {h : Hp} {K : Ex → Loc → Hp → Prop} : Then (some (e, l, h)) K ↔ K e l h := by
  constructor
  · intro ⟨_, _, _, h1, h2⟩; cases h1; exact h2
  · intro h2; exact ⟨_, _, _, rfl, h2⟩

abbrev Post := Ex → Loc → Hp → Prop
inductive Fr where
  | code (c : Code)
  | blk (id : Nat)
  | ops (all os : List Oper)
  | opsD (all : List Oper) (q : Nat) (ps : List (Nat × Nat)) (os : List Oper) (i : Nat) (tr : List (Nat × Tch))
section
variable (E : Env) (R : Rec) (cx : Cx) (Q : Post)
def Run : List Fr → Ex → Loc → Hp → Prop
  | [], e, l, h => Q e l h
  | .code c :: k, .normal, l, h => ∃ e' l' h', codeStep E R cx c l h = some (e', l', h') ∧ Run k e' l' h'
  | .ops a os :: k, .normal, l, h => ∃ e' l' h', evOps E R cx a os l h = some (e', l', h') ∧ Run k e' l' h'
  | .opsD a q ps os i tr :: k, .normal, l, h => ∃ l' h' tr', evOpsD E R a q os i l h tr = some (l', h', tr') ∧ pairsOk tr' ps = true ∧ Run k .normal l' h'
  | .blk _ :: k, .normal, l, h => Run k .normal l h
  | .blk id :: k, .exit i, l, h => if i = id then Run k .normal l h else Run k (.exit i) l h
  | _ :: k, .exit i, l, h => Run k (.exit i) l h
  | _ :: k, .ret, l, h => Run k .ret l h
  | _ :: k, .pan v, l, h => Run k (.pan v) l h
end
section
variable {E : Env} {R : Rec} {cx : Cx} {Q : Post} {k : List Fr} {l : Loc} {h : Hp}

theorem run_nil {e : Ex} : Run E R cx Q [] e l h ↔ Q e l h := Iff.rfl
theorem run_skip : Run E R cx Q (.code .skip :: k) .normal l h ↔ Run E R cx Q k .normal l h := by simp only [Run, codeStep]; exact then_some
theorem run_label {n : Nat} : Run E R cx Q (.code (.label n) :: k) .normal l h ↔ Run E R cx Q k .normal l h := by simp only [Run, codeStep]; exact then_some
theorem run_seq {a b : Code} : Run E R cx Q (.code (.seq a b) :: k) .normal l h ↔ Run E R cx Q (.code a :: .code b :: k) .normal l h := by
  simp only [Run, codeStep]
  constructor
  · intro ⟨e', l', h', h1, h2⟩
    cases ha : codeStep E R cx a l h with
    | none => rw [ha] at h1; cases h1
    | some q =>
      obtain ⟨x, l1, hh1⟩ := q
      rw [ha] at h1
      refine ⟨x, l1, hh1, rfl, ?_⟩
      cases x with
      | normal => exact ⟨e', l', h', h1, h2⟩
      | exit i => cases h1; exact h2
      | ret => cases h1; exact h2
      | pan v => cases h1; exact h2
  · intro ⟨x, l1, hh1, ha, h2⟩
    rw [ha]
    cases x with
    | normal => exact h2
    | exit i => exact ⟨_, _, _, rfl, h2⟩
    | ret => exact ⟨_, _, _, rfl, h2⟩
    | pan v => exact ⟨_, _, _, rfl, h2⟩
theorem run_block {id : Nat} {b : Code} : Run E R cx Q (.code (.block id b) :: k) .normal l h ↔ Run E R cx Q (.code b :: .blk id :: k) .normal l h := by
  simp only [Run, codeStep]
  constructor
  · intro ⟨e', l', h', h1, h2⟩
    cases ha : codeStep E R cx b l h with
    | none => rw [ha] at h1; cases h1
    | some q =>
      obtain ⟨x, l1, hh1⟩ := q
      rw [ha] at h1
      refine ⟨x, l1, hh1, rfl, ?_⟩
      cases x with
      | normal => cases h1; exact h2
      | exit i =>
        simp only [] at h1
        cases hi : Nat.beq i id with
        | true => rw [hi] at h1; cases h1; have := Nat.eq_of_beq_eq_true hi; subst this; simp only [Run, if_true]; exact h2
        | false =>
          rw [hi] at h1; cases h1
          simp only [Run]
          rw [if_neg (by intro e; subst e; rw [Nat.beq_refl] at hi; cases hi)]; exact h2
      | ret => cases h1; exact h2
      | pan v => cases h1; exact h2
  · intro ⟨x, l1, hh1, ha, h2⟩
    rw [ha]
    cases x with
    | normal => exact ⟨_, _, _, rfl, h2⟩
    | exit i =>
      simp only [Run] at h2
      simp only []
      by_cases hi : i = id
      · subst hi; rw [if_pos rfl] at h2; rw [Nat.beq_refl]; exact ⟨_, _, _, rfl, h2⟩
      · rw [if_neg hi] at h2
        have : Nat.beq i id = false := by
          cases hb : Nat.beq i id with
          | false => rfl
          | true => exact absurd (Nat.eq_of_beq_eq_true hb) hi
        rw [this]; exact ⟨_, _, _, rfl, h2⟩
    | ret => exact ⟨_, _, _, rfl, h2⟩
    | pan v => exact ⟨_, _, _, rfl, h2⟩
theorem run_scope {b : Code} : Run E R cx Q (.code (.scope b) :: k) .normal l h ↔ Run E R cx Q (.code b :: k) .normal l h := Iff.rfl
theorem run_blk {id : Nat} : Run E R cx Q (.blk id :: k) .normal l h ↔ Run E R cx Q k .normal l h := Iff.rfl
theorem run_exit {id : Nat} : Run E R cx Q (.code (.exit id) :: k) .normal l h ↔ Run E R cx Q k (.exit id) l h := by simp only [Run, codeStep]; exact then_some
theorem run_ret : Run E R cx Q (.code .ret :: k) .normal l h ↔ Run E R cx Q k .ret l h := by simp only [Run, codeStep]; exact then_some
theorem run_blk_exit {id i : Nat} : Run E R cx Q (.blk id :: k) (.exit i) l h ↔ if i = id then Run E R cx Q k .normal l h else Run E R cx Q k (.exit i) l h := Iff.rfl
theorem run_code_exit {c : Code} {i : Nat} : Run E R cx Q (.code c :: k) (.exit i) l h ↔ Run E R cx Q k (.exit i) l h := Iff.rfl
theorem run_ops_exit {a os : List Oper} {i : Nat} : Run E R cx Q (.ops a os :: k) (.exit i) l h ↔ Run E R cx Q k (.exit i) l h := Iff.rfl
theorem run_fr_ret {f : Fr} : Run E R cx Q (f :: k) .ret l h ↔ Run E R cx Q k .ret l h := by cases f <;> exact Iff.rfl
theorem run_fr_pan {f : Fr} {v : Value} : Run E R cx Q (f :: k) (.pan v) l h ↔ Run E R cx Q k (.pan v) l h := by cases f <;> exact Iff.rfl
theorem run_cond {c : Operand} {a b : Code} : Run E R cx Q (.code (.cond c a b) :: k) .normal l h ↔ ∃ t, l.ev c = .bool t ∧ if t = true then Run E R cx Q (.code a :: k) .normal l h else Run E R cx Q (.code b :: k) .normal l h := by
  simp only [Run, codeStep]
  constructor
  · intro ⟨e', l', h', h1, h2⟩
    cases hc : l.ev c <;> rw [hc] at h1 <;> (try (cases h1; done))
    rename_i t
    cases t with
    | true => exact ⟨true, rfl, by rw [if_pos rfl]; exact ⟨e', l', h', h1, h2⟩⟩
    | false => exact ⟨false, rfl, by rw [if_neg (by simp)]; exact ⟨e', l', h', h1, h2⟩⟩
  · intro ⟨t, hc, h2⟩
    rw [hc]
    cases t with
    | true => rw [if_pos rfl] at h2; exact h2
    | false => rw [if_neg (by simp)] at h2; exact h2
theorem run_region {id : Nat} {ops : Array Oper} : Run E R cx Q (.code (.region id ops false) :: k) .normal l h ↔ Run E R cx Q (.ops ops.toList ops.toList :: k) .normal l h := by simp only [Run, codeStep, cond_false]
theorem run_loop {b : Code} : Run E R cx Q (.code (.loop b) :: k) .normal l h ↔ ∃ e' l' h', codeStep E R cx (.loop b) l h = some (e', l', h') ∧ Run E R cx Q k e' l' h' := Iff.rfl

/-! ### operations -/
theorem run_ops_nil {a : List Oper} : Run E R cx Q (.ops a [] :: k) .normal l h ↔ Run E R cx Q k .normal l h := by simp only [Run, evOps]; exact then_some
theorem run_ops_cons {a os : List Oper} {o : Oper} : Run E R cx Q (.ops a (o :: os) :: k) .normal l h ↔ ∃ b, guardOk a l.regs o = some b ∧
    (if b = true then Then (stepOp E R cx o l h) fun e l' h' => Run E R cx Q (.ops a os :: k) e l' h' else Run E R cx Q (.ops a os :: k) .normal (l.put o.dst (.tuple #[])) h) := by
  simp only [Run, evOps]
  constructor
  · intro ⟨e', l', h', h1, h2⟩
    cases hg : guardOk a l.regs o with
    | none => rw [hg] at h1; cases h1
    | some b =>
      rw [hg] at h1
      refine ⟨b, rfl, ?_⟩
      cases b with
      | false => rw [if_neg (by simp)]; exact ⟨e', l', h', h1, h2⟩
      | true =>
        rw [if_pos rfl]
        simp only [] at h1
        cases hs : stepOp E R cx o l h with
        | none => rw [hs] at h1; cases h1
        | some q =>
          obtain ⟨x, l1, hh1⟩ := q
          rw [hs] at h1
          refine ⟨x, l1, hh1, rfl, ?_⟩
          cases x with
          | normal => exact ⟨e', l', h', h1, h2⟩
          | exit i => cases h1; exact h2
          | ret => cases h1; exact h2
          | pan v => cases h1; exact h2
  · intro ⟨b, hg, h2⟩
    rw [hg]
    cases b with
    | false => rw [if_neg (by simp)] at h2; exact h2
    | true =>
      rw [if_pos rfl] at h2
      obtain ⟨x, l1, hh1, hs, h2⟩ := h2
      simp only [hs]
      cases x with
      | normal => exact h2
      | exit i => exact ⟨_, _, _, rfl, h2⟩
      | ret => exact ⟨_, _, _, rfl, h2⟩
      | pan v => exact ⟨_, _, _, rfl, h2⟩

theorem run_draw {id : Nat} {ops : Array Oper} {q : Nat} {ps : List (Nat × Nat)} {os : List Oper} (hh : hoist ops.toList = os) (hp : plan E os = some (q, ps)) : Run E R cx Q (.code (.region id ops true) :: k) .normal l h ↔ Run E R cx Q (.opsD os q ps os 0 [] :: k) .normal l h := by
  simp only [Run, codeStep, cond_true, hh, hp]
  constructor
  · intro ⟨e', l', h', h1, h2⟩
    cases he : evOpsD E R os q os 0 l h [] with
    | none => rw [he] at h1; cases h1
    | some x =>
      obtain ⟨a, b, c⟩ := x
      rw [he] at h1
      simp only [] at h1
      cases hb : pairsOk c ps with
      | false => rw [hb] at h1; cases h1
      | true => rw [hb] at h1; cases h1; exact ⟨_, _, _, rfl, hb, h2⟩
  · intro ⟨l', h', tr', he, hb, h2⟩
    rw [he]
    simp only [hb, cond_true]
    exact ⟨_, _, _, rfl, h2⟩
theorem run_opsD_nil {a : List Oper} {q i : Nat} {ps : List (Nat × Nat)} {tr : List (Nat × Tch)} : Run E R cx Q (.opsD a q ps [] i tr :: k) .normal l h ↔ pairsOk tr ps = true ∧ Run E R cx Q k .normal l h := by
  simp only [Run, evOpsD]
  constructor
  · intro ⟨_, _, _, a, b, c⟩; cases a; exact ⟨b, c⟩
  · intro ⟨b, c⟩; exact ⟨_, _, _, rfl, b, c⟩
theorem run_opsD_cons {a os : List Oper} {o : Oper} {q i : Nat} {ps : List (Nat × Nat)} {tr : List (Nat × Tch)} : Run E R cx Q (.opsD a q ps (o :: os) i tr :: k) .normal l h ↔ ∃ b, guardOk a l.regs o = some b ∧
    (if b = true then ∃ v h', stepD E R (l.evD (tmpsOf o.op.operands.toList)) (hush E q i o.op) o h = some (v, h') ∧
        Run E R cx Q (.opsD a q ps os (i + 1) (noted i tr (noteOf (l.evD (tmpsOf o.op.operands.toList)) (hush E q i o.op) o.op h h')) :: k) .normal (l.put o.dst v) h'
      else Run E R cx Q (.opsD a q ps os (i + 1) tr :: k) .normal (l.put o.dst (.tuple #[])) h) := by
  simp only [Run, evOpsD]
  constructor
  · intro ⟨l', h', tr', h1, h2, h3⟩
    cases hg : guardOk a l.regs o with
    | none => rw [hg] at h1; cases h1
    | some b =>
      rw [hg] at h1
      refine ⟨b, rfl, ?_⟩
      cases b with
      | false => rw [if_neg (by simp)]; exact ⟨l', h', tr', h1, h2, h3⟩
      | true =>
        rw [if_pos rfl]
        simp only [] at h1
        cases hs : stepD E R (l.evD (tmpsOf o.op.operands.toList)) (hush E q i o.op) o h with
        | none => rw [hs] at h1; cases h1
        | some p => obtain ⟨v, hh⟩ := p; rw [hs] at h1; exact ⟨v, hh, rfl, l', h', tr', h1, h2, h3⟩
  · intro ⟨b, hg, h2⟩
    rw [hg]
    cases b with
    | false => rw [if_neg (by simp)] at h2; exact h2
    | true =>
      rw [if_pos rfl] at h2
      obtain ⟨v, hh, hs, h2⟩ := h2
      simp only [hs]
      exact h2
end
end Go.Ab

/- A program's own environment. -/
namespace Go.Ab

noncomputable def envOf (fns : Tr Func) (tys : Tr TypeInfo) (eqs : List Nat) : Env := { fn := fun f => fns.get f, ty := fun t => tys.get t, eqok := fun t => memb t eqs }

theorem run_callFunc {P : Program} {f : FuncId} {fn : Func} (hf : P.funcs[f]? = some fn) (hb : fn.body.isSome = true) (hn : (fn.name == "runtime.NumGoroutine") = false) (args : Array Value) (w : World) :
    (callFunc f args).run P w = .ok (.enter f args) w := by
  have hnone : fn.body.isNone = false := by cases h : fn.body <;> simp_all
  unfold callFunc
  have hp : program.run P w = .ok P w := rfl
  simp only [Sem.run_bind, hp, Result.andThen_ok, hf, hn, hnone, Bool.false_eq_true, if_false, Sem.run_pure]

theorem eok_of {P : Program} {fns : Tr Func} {tys : Tr TypeInfo} {eqs : List Nat} (h1 : fns = Tr.ofList P.funcs.toList) (h2 : tys = Tr.ofList P.types.toList)
    (h3 : (P.funcs.toList.all fun fn => fn.body.isNone || !(fn.name == "runtime.NumGoroutine")) = true) (h4 : (eqs.all fun t => !P.stoodInHeld t && !P.eqGuardType P.depth t) = true)
    (h5 : P.follows .mixedOrders = true) : EOk (envOf fns tys eqs) P where
  fn := by
    intro f fn h
    have h' : fns.get f = some fn := h
    rw [h1, Tr.get_ofList] at h'
    simpa using h'
  call := by
    intro f fn args w h hb
    have h' : fns.get f = some fn := h
    rw [h1, Tr.get_ofList] at h'
    have hm := List.mem_of_getElem? h'
    have := (List.all_eq_true.1 h3) fn hm
    refine run_callFunc (by simpa using h') hb ?_ args w
    cases hn : (fn.name == "runtime.NumGoroutine") with
    | false => rfl
    | true => rw [hn] at this; cases hx : fn.body <;> simp_all
  ty := by
    intro t i h
    have h' : tys.get t = some i := h
    rw [h2, Tr.get_ofList] at h'
    show P.toTables.info? t = some i
    have hk : P.types[t]? = some i := by simpa using h'
    unfold Tables.info?
    rw [if_pos (Array.getElem?_eq_some_iff.1 hk).1]; exact hk
  eq := by
    intro t h
    have hm : t ∈ eqs := (memb_iff t eqs).1 h
    have := (List.all_eq_true.1 h4) t hm
    simp only [Bool.and_eq_true, Bool.not_eq_true'] at this
    exact this
  mixed := h5
  orc := by
    intro g args v h
    cases h
/-- An environment that knows more. -/
noncomputable def withOrc (E : Env) (o : Nat → List Value → Option Value) : Env := { E with orc := o }
theorem eok_with {E : Env} {P : Program} (ok : EOk E P) {o : Nat → List Value → Option Value} (ho : ∀ g args v, o g args = some v → (∃ fn, E.fn g = some fn ∧ fn.body.isSome = true) ∧ OrcAt P g args v) : EOk (withOrc E o) P where
  fn := ok.fn
  call := ok.call
  ty := ok.ty
  eq := ok.eq
  mixed := ok.mixed
  orc := ho
end Go.Ab
namespace Go.Ab
open Go.ChangeShapes Go.WideShapes
variable {H : Type} {enc : TypeId × Value → H} {P : Program}
theorem post_of_kept {f : Func} {s : ChangeSpec} {apart fresh handsOn again : Bool} {W W' : World} {args : Array Value} {v : Value} {ds gs : List (DataW H)} {before pa pv : List MemPlace}
    (hW : DataW.Whole enc P f.params.toList s.vars apart W args.toList ds gs before)
    (hres : ∀ (b : Nat) (sp : Nat → Bool) (hd : Bool), DataW.TrodAll enc P W' b sp hd f.resultTypes.toList (v.resultList f.resultTypes.size) (s.fn H (ds ++ gs)).results [])
    (hargs : ∀ sp : Nat → Bool, (∀ p ∈ before, sp p.block = true) → DataW.TrodAll enc P W' 0 sp true f.params.toList args.toList (s.fn H (ds ++ gs)).args pa)
    (hvars : ∀ sp : Nat → Bool, (∀ p ∈ before, sp p.block = true) → DataW.TrodVars enc P W' sp s.vars (s.fn H (ds ++ gs)).vars pv)
    (hps : before = pa ++ pv) (hk : Kept W W')
    (hok : ∀ (j : Nat) (t : TypeId) (r : Value), f.resultTypes[j]? = some t → (v.resultList f.resultTypes.size)[j]? = some r → Value.okWide P W' .any 0 t r) :
    s.post enc P f apart fresh handsOn again W args v W' := by
  have hold : ∀ p ∈ before, (fun b => decide (b < W.heap.size)) p.block = true := fun p hp => by simpa using hW.lt p hp
  refine ⟨ds, gs, before, [], pa, pv, hW, hres _ _ _, hargs _ hold, hvars _ hold, World.keptBut_mono (fun p hp => hp.elim) hk.1, fun _ => ?_⟩
  · have hlt := hW.lt
    obtain ⟨_, _, _, _, _, hz, hn⟩ := hW
    refine ⟨hok, _, _, ([] ++ pa) ++ pv, ⟨[] ++ pa, pv, trodAll_append (hargs _ (fun _ _ => rfl)) (hres _ _ _), hvars _ (fun _ _ => rfl), rfl, ?_, ?_⟩, ?_⟩
    · intro b off hp
      have hp' : MemPlace.cell b off ∈ before := by rw [hps]; simpa using hp
      rw [hk.2.1 _ (by have := hlt _ hp'; exact this)]
      exact hz b off hp'
    · intro ha
      have := hn ha
      rw [hps] at this
      simpa using this
    · intro p hp _
      rw [hps]
      simpa using hp
end Go.Ab

/- Reasoning on the evaluator: operations, calls. -/
namespace Go.Ab

/-- What a call leaves. -/
def CallQ (E : Env) (f : FuncId) (args : List Value) (rc : Option (Value × Bool)) (h : Hp) (Q : Out → Option (Value × Bool) → Hp → Prop) : Prop := ∃ o rc' h', (lim E).call f args rc h = some (o, rc', h') ∧ Q o rc' h'
/-- A call that returns. -/
def Ret (E : Env) (f : FuncId) (args : List Value) (h : Hp) (Q : Value → Hp → Prop) : Prop := ∃ v h', (lim E).call f args none h = some (.ret v, none, h') ∧ Q v h'
theorem Ret.mono {E : Env} {f : FuncId} {args : List Value} {h : Hp} {Q Q' : Value → Hp → Prop} (k : ∀ v h', Q v h' → Q' v h') (r : Ret E f args h Q) : Ret E f args h Q' := by
  obtain ⟨v, h', a, b⟩ := r; exact ⟨v, h', a, k v h' b⟩
/-- A function value's call that returns. -/
def RetV (E : Env) (fv : Value) (args : List Value) (h : Hp) (Q : Value → Hp → Prop) : Prop := ∃ g a b, fv = .func (.func g) a b ∧ Ret E g (a.toList ++ args ++ b.toList) h Q
/-- A round of a loop over a function. -/
def RoundQ (E : Env) (b : Nat) (args : List Value) (h : Hp) (Q : Out → Hp → Prop) : Prop := ∃ o h', roundStep E (lim E) b args h = some (o, h') ∧ Q o h'

section
variable (E : Env) (cx : Cx) (o : Oper) (l : Loc) (K : Ex → Loc → Hp → Prop)
def StepR : Option (ANext × Hp) → Prop
  | some (.val v, h') => K .normal (l.put o.dst v) h'
  | some (.skip, h') => K .normal (l.put o.dst (.tuple #[])) h'
  | some (.call f args, h') => CallQ E f args none h' fun x _ h'' => match x with
    | .ret v => K .normal (l.put o.dst v) h''
    | .pan v => K (.pan v) l h''
  | some (.yield b args, h') => RoundQ E b args h' fun x h'' => match x with
    | .ret v => K .normal (l.put o.dst v) h''
    | .pan v => K (.pan v) l h''
  | some (.panic v, h') => K (.pan v) l h'
  | some (.recov, h') => cx.round = none ∧ match l.rc with
    | some (v, false) => K .normal (({ l with rc := some (v, true) } : Loc).put o.dst v) h'
    | _ => K .normal (l.put o.dst .nilIface) h'
  | some (.defer d, h') => cx.round = none ∧ K .normal (({ l with dfs := d :: l.dfs } : Loc).put o.dst (.tuple #[])) h'
  | none => False
end
section
variable {E : Env} {cx : Cx} {o : Oper} {l : Loc} {K : Ex → Loc → Hp → Prop} {h : Hp}
theorem then_step : Then (stepOp E (lim E) cx o l h) K ↔ StepR E cx o l K (aop E l.ev h o.op) := by
  unfold stepOp
  cases hx : aop E l.ev h o.op with
  | none =>
    simp only [StepR, opVal, ofOut]
    exact ⟨fun ⟨_, _, _, h1, _⟩ => (by cases h1), fun h => h.elim⟩
  | some q =>
    obtain ⟨nx, h1⟩ := q
    cases nx with
    | val v => exact then_some
    | skip => exact then_some
    | panic v => exact then_some
    | call f args =>
      simp only [StepR, opVal, CallQ]
      constructor
      · intro ⟨e, l', h', a, b⟩
        cases hc : (lim E).call f args none h1 with
        | none => rw [hc] at a; cases a
        | some q =>
          obtain ⟨x, rc, h2⟩ := q
          rw [hc] at a
          cases x <;> (cases a; exact ⟨_, _, _, rfl, b⟩)
      · intro ⟨x, rc, h2, a, b⟩
        rw [a]
        cases x <;> exact ⟨_, _, _, rfl, b⟩
    | yield b args =>
      simp only [StepR, opVal, RoundQ]
      constructor
      · intro ⟨e, l', h', a, c⟩
        cases hc : roundStep E (lim E) b args h1 with
        | none => rw [hc] at a; cases a
        | some q =>
          obtain ⟨x, h2⟩ := q
          rw [hc] at a
          cases x <;> (cases a; exact ⟨_, _, rfl, c⟩)
      · intro ⟨x, h2, a, c⟩
        rw [a]
        cases x <;> exact ⟨_, _, _, rfl, c⟩
    | recov =>
      simp only [StepR]
      cases cx.round with
      | some r => simp only []; exact ⟨fun ⟨_, _, _, h1, _⟩ => (by cases h1), fun h => (by cases h.1)⟩
      | none =>
        simp only [true_and]
        cases l.rc with
        | none => exact then_some
        | some y => obtain ⟨v, b⟩ := y; cases b <;> exact then_some
    | defer d =>
      simp only [StepR]
      cases cx.round with
      | some r => simp only []; exact ⟨fun ⟨_, _, _, h1, _⟩ => (by cases h1), fun h => (by cases h.1)⟩
      | none => simp only [true_and]; exact then_some
theorem step_some_val {v : Value} : StepR E cx o l K (some (.val v, h)) ↔ K .normal (l.put o.dst v) h := Iff.rfl
theorem step_some_skip : StepR E cx o l K (some (.skip, h)) ↔ K .normal (l.put o.dst (.tuple #[])) h := Iff.rfl
theorem step_some_panic {v : Value} : StepR E cx o l K (some (.panic v, h)) ↔ K (.pan v) l h := Iff.rfl
theorem step_ret {f : FuncId} {args : List Value} {Q : Value → Hp → Prop} (hr : Ret E f args h Q) (hk : ∀ v h', Q v h' → K .normal (l.put o.dst v) h') : StepR E cx o l K (some (.call f args, h)) := by
  obtain ⟨v, h', a, b⟩ := hr
  exact ⟨.ret v, none, h', a, hk v h' b⟩
theorem step_ret_iff {f : FuncId} {args : List Value} : StepR E cx o l K (some (.call f args, h)) ↔ CallQ E f args none h fun x _ h'' => match x with
    | .ret v => K .normal (l.put o.dst v) h''
    | .pan v => K (.pan v) l h'' := Iff.rfl
end

/-! ### entering, leaving -/
def Leave (E : Env) (rs : List ResultVar) (Q : Out → Option (Value × Bool) → Hp → Prop) : Post
  | .exit _, _, _ => False
  | .pan v, l, h => ∃ m h', unwindA (lim E) l.dfs (some v) h = some (m, h') ∧ match m with
    | some v => Q (.pan v) l.rc h'
    | none => ∃ vs, readRes E l.regs h' rs = some vs ∧ Q (.ret (tupleOf vs)) l.rc h'
  | .normal, l, h => ∃ h', unwindA (lim E) l.dfs none h = some (none, h') ∧ ∃ vs, readRes E l.regs h' rs = some vs ∧ Q (.ret (tupleOf vs)) l.rc h'
  | .ret, l, h => ∃ h', unwindA (lim E) l.dfs none h = some (none, h') ∧ ∃ vs, readRes E l.regs h' rs = some vs ∧ Q (.ret (tupleOf vs)) l.rc h'

theorem enter {E : Env} {f : FuncId} {fn : Func} {body : Code} {n : Nat} {rs : List ResultVar} {args : List Value} {rc : Option (Value × Bool)} {h : Hp} {Q : Out → Option (Value × Bool) → Hp → Prop}
    (ho : E.orc f args = none) (hf : E.fn f = some fn) (hb : fn.body = some body) (hn : fn.ntmps = n) (hrs : fn.results.toList = rs) (hle : args.length ≤ n)
    (hr : Run E (lim E) ⟨f, n, none⟩ (Leave E rs Q) [.code body] .normal (LL n (argR args) [] rc) h) : CallQ E f args rc h Q := by
  obtain ⟨e, l, h', h1, h2⟩ := hr
  simp only [Run] at h2
  unfold CallQ
  rw [call_eq]
  unfold callStep
  rw [ho]
  simp only []
  unfold callBody
  rw [hf]
  simp only []
  rw [hb]
  simp only []
  rw [hn, Nat.ble_eq_true_of_le hle]
  simp only [cond_true]
  rw [args_tab hle]
  have hcode : (lim E).code ⟨f, n, none⟩ body ⟨tab n (argR args), [], rc⟩ h = some (e, l, h') := by rw [code_eq]; exact h1
  rw [hcode, hrs]
  cases e with
  | exit i => exact h2.elim
  | pan v =>
    obtain ⟨m, h3, a, b⟩ := h2
    simp only [a]
    cases m with
    | some v => exact ⟨_, _, _, rfl, b⟩
    | none => obtain ⟨vs, c, d⟩ := b; simp only [c]; exact ⟨_, _, _, rfl, d⟩
  | normal => obtain ⟨h3, a, vs, c, d⟩ := h2; simp only [a, c]; exact ⟨_, _, _, rfl, d⟩
  | ret => obtain ⟨h3, a, vs, c, d⟩ := h2; simp only [a, c]; exact ⟨_, _, _, rfl, d⟩
/-- What a call that returns must bring. -/
def RetQ (Q : Value → Hp → Prop) : Out → Option (Value × Bool) → Hp → Prop
  | .ret v, none, h => Q v h
  | _, _, _ => False
theorem ret_of {E : Env} {f : FuncId} {args : List Value} {h : Hp} {Q : Value → Hp → Prop} (hq : CallQ E f args none h (RetQ Q)) : Ret E f args h Q := by
  obtain ⟨o, rc, h', a, b⟩ := hq
  cases o with
  | pan v => exact b.elim
  | ret v => cases rc with
    | none => exact ⟨v, h', a, b⟩
    | some y => exact b.elim
theorem enter_ret {E : Env} {f : FuncId} {fn : Func} {body : Code} {n : Nat} {rs : List ResultVar} {args : List Value} {h : Hp} {Q : Value → Hp → Prop}
    (ho : E.orc f args = none) (hf : E.fn f = some fn) (hb : fn.body = some body) (hn : fn.ntmps = n) (hrs : fn.results.toList = rs) (hle : args.length ≤ n)
    (hr : Run E (lim E) ⟨f, n, none⟩ (Leave E rs (RetQ Q)) [.code body] .normal (LL n (argR args) [] none) h) : Ret E f args h Q := ret_of (enter ho hf hb hn hrs hle hr)
theorem ret_orc {E : Env} {f : FuncId} {args : List Value} {h : Hp} {v : Value} {Q : Value → Hp → Prop} (ho : E.orc f args = some v) (hq : Q v h) : Ret E f args h Q := by
  refine ⟨v, h, ?_, hq⟩
  rw [call_eq]
  unfold callStep
  rw [ho]
section
variable {E : Env} {rs : List ResultVar} {Q : Value → Hp → Prop} {n : Nat} {ρ : Nat → Value} {h : Hp}
theorem leave_ret : Leave E rs (RetQ Q) .ret (LL n ρ [] none) h ↔ ∃ vs, readRes E (tab n ρ) h rs = some vs ∧ Q (tupleOf vs) h := by
  simp only [Leave, LL, unwindA]
  constructor
  · intro ⟨h', a, b⟩; cases a; exact b
  · intro b; exact ⟨h, rfl, b⟩
theorem leave_normal : Leave E rs (RetQ Q) .normal (LL n ρ [] none) h ↔ ∃ vs, readRes E (tab n ρ) h rs = some vs ∧ Q (tupleOf vs) h := leave_ret
theorem res_nil {P : List Value → Prop} : (∃ vs, readRes E (tab n ρ) h [] = some vs ∧ P vs) ↔ P [] := by
  simp only [readRes]
  constructor
  · intro ⟨_, a, b⟩; cases a; exact b
  · intro b; exact ⟨_, rfl, b⟩
theorem res_tmp {t : Tmp} {P : List Value → Prop} (ht : t < n) : (∃ vs, readRes E (tab n ρ) h (.tmp t :: rs) = some vs ∧ P vs) ↔ ∃ vs, readRes E (tab n ρ) h rs = some vs ∧ P (ρ t :: vs) := by
  simp only [readRes, get_tab, if_pos ht]
  constructor
  · intro ⟨vs, a, b⟩
    cases hr : readRes E (tab n ρ) h rs with
    | none => rw [hr] at a; cases a
    | some l => rw [hr] at a; cases a; exact ⟨l, rfl, b⟩
  · intro ⟨vs, a, b⟩; rw [a]; exact ⟨_, rfl, b⟩
theorem res_cell {t : Tmp} {ty : TypeId} {v : Value} {P : List Value → Prop} (ht : t < n) (hv : loadV E h ty (ρ t) = some v) : (∃ vs, readRes E (tab n ρ) h (.cell t ty :: rs) = some vs ∧ P vs) ↔ ∃ vs, readRes E (tab n ρ) h rs = some vs ∧ P (v :: vs) := by
  simp only [readRes, get_tab, if_pos ht, hv]
  constructor
  · intro ⟨vs, a, b⟩
    cases hr : readRes E (tab n ρ) h rs with
    | none => rw [hr] at a; cases a
    | some l => rw [hr] at a; cases a; exact ⟨l, rfl, b⟩
  · intro ⟨vs, a, b⟩; rw [a]; exact ⟨_, rfl, b⟩
end
end Go.Ab

/- Reasoning on the evaluator: the heap. -/
namespace Go.Ab

/-- A heap that has new blocks at most. -/
structure Gr (h h' : Hp) : Prop where
  ok0 : h.t.Sized h.n
  ok : h'.t.Sized h'.n
  n : h.n ≤ h'.n
  get : ∀ b, b < h.n → h'.get b = h.get b
  lo : ∀ x, x ≤ h.n → x ≤ h.lo → x ≤ h'.lo
theorem Gr.refl {h : Hp} (ok : h.t.Sized h.n) : Gr h h := ⟨ok, ok, Nat.le_refl _, fun _ _ => rfl, fun _ _ h => h⟩
theorem Gr.trans {a b c : Hp} (x : Gr a b) (y : Gr b c) : Gr a c :=
  ⟨x.ok0, y.ok, Nat.le_trans x.n y.n, fun i hi => (y.get i (Nat.lt_of_lt_of_le hi x.n)).trans (x.get i hi), fun i h1 h2 => y.lo i (Nat.le_trans h1 x.n) (x.lo i h1 h2)⟩
theorem new_ok {h : Hp} (ok : h.t.Sized h.n) (x : Blk) : (h.new x).t.Sized (h.new x).n := Tr.sized_push x ok
theorem put_ok {h : Hp} (ok : h.t.Sized h.n) (b : Nat) (x : Blk) : (h.put b x).t.Sized (h.put b x).n := Tr.sized_set b x ok
theorem Gr.new {h : Hp} (ok : h.t.Sized h.n) (x : Blk) : Gr h (h.new x) :=
  ⟨ok, new_ok ok x, Nat.le_succ _, fun b hb => by rw [h.get_new x ok, if_neg (by omega)], fun _ _ h => h⟩
theorem Gr.snew {a h : Hp} (g : Gr a h) (x : Blk) : Gr a (h.new x) := g.trans (Gr.new g.ok x)
theorem Gr.put {a h : Hp} (g : Gr a h) {b : Nat} (hb : a.n ≤ b) (x : Blk) : Gr a (h.put b x) := by
  refine ⟨g.ok0, put_ok g.ok b x, g.n, fun i hi => ?_, fun i h1 h2 => ?_⟩
  · rw [Hp.get_put, if_neg (fun e => by omega)]; exact g.get i hi
  · have := g.lo i h1 h2
    show i ≤ nmin b h.lo
    unfold nmin
    cases Nat.ble b h.lo <;> simp <;> omega
theorem lt_of_get {h : Hp} (ok : h.t.Sized h.n) {b : Nat} {x : Blk} (e : h.get b = some x) : b < h.n := (ok b).1 (by show (h.get b).isSome = true; rw [e]; rfl)
theorem Gr.at {h h' : Hp} (g : Gr h h') {b : Nat} {x : Blk} (e : h.get b = some x) : h'.get b = some x := by rw [g.get b (lt_of_get g.ok0 e)]; exact e
theorem lt_of_load {h : Hp} (ok : h.t.Sized h.n) {b o n : Nat} {l : List Value} (e : h.load b o n = some l) : b < h.n := by
  unfold Hp.load at e
  split at e
  next hg => exact lt_of_get ok hg
  next => cases e
theorem Gr.load {h h' : Hp} (g : Gr h h') {b o n : Nat} {l : List Value} (e : h.load b o n = some l) : h'.load b o n = some l := by
  have := g.get b (lt_of_load g.ok0 e)
  unfold Hp.load at e ⊢
  rw [this]; exact e
theorem Gr.hlo {h h' : Hp} (g : Gr { h with lo := h.n } h') : Nat.ble h.n h'.lo = true := Nat.ble_eq_true_of_le (g.lo h.n (Nat.le_refl _) (Nat.le_refl _))

/-! ### rows of cells -/
/-- Block b is a row of cells; md: may it be written? -/
def Row (h : Hp) (b : Nat) (l : List Value) (md : Nat) : Prop := ∃ t el, h.get b = some (.cells t l.length el md) ∧ t.Sized l.length ∧ ∀ i : Nat, t.get i = l[i]?
theorem Row.gr {h h' : Hp} (g : Gr h h') {b : Nat} {l : List Value} {md : Nat} (r : Row h b l md) : Row h' b l md := by
  obtain ⟨t, el, a, b, c⟩ := r; exact ⟨t, el, g.at a, b, c⟩
theorem Row.lt {h : Hp} (ok : h.t.Sized h.n) {b : Nat} {l : List Value} {md : Nat} (r : Row h b l md) : b < h.n := by
  obtain ⟨t, el, a, _, _⟩ := r; exact lt_of_get ok a
theorem slice_of {α : Type} {t : Tr α} {l : List α} (ht : ∀ i : Nat, t.get i = l[i]?) : ∀ (n o : Nat), o + n ≤ l.length → t.slice o n = some ((l.drop o).take n)
  | 0, o, _ => by simp [Tr.slice]
  | n + 1, o, h => by
    simp only [Tr.slice]
    have : l[o]? = some l[o] := List.getElem?_eq_getElem (by omega)
    rw [ht o, this, slice_of ht n (o + 1) (by omega)]
    simp only []
    congr 1
    rw [show List.drop o l = l[o] :: List.drop (o + 1) l from List.drop_eq_getElem_cons (by omega)]
    rfl
theorem Row.load {h : Hp} {b : Nat} {l : List Value} {md : Nat} (r : Row h b l md) {o n : Nat} (hn : o + n ≤ l.length) : h.load b o n = some ((l.drop o).take n) := by
  obtain ⟨t, el, a, _, c⟩ := r
  unfold Hp.load
  rw [a]
  simp only []
  rw [Nat.ble_eq_true_of_le hn]
  exact slice_of c n o hn
theorem Row.load1 {h : Hp} {b : Nat} {l : List Value} {md : Nat} (r : Row h b l md) {o : Nat} {v : Value} (hv : l[o]? = some v) : h.load b o 1 = some [v] := by
  have hlt := (List.getElem?_eq_some_iff.1 hv).1
  rw [r.load (by omega)]
  congr 1
  rw [List.drop_eq_getElem_cons hlt]
  have := (List.getElem?_eq_some_iff.1 hv).2
  simp [this]
theorem row_new {h : Hp} (ok : h.t.Sized h.n) (l : List Value) (el md : Nat) : Row (h.new (.cells (Tr.ofList l) l.length el md)) h.n l md :=
  ⟨Tr.ofList l, el, by rw [h.get_new _ ok, if_pos rfl], Tr.sized_ofList l, fun i => Tr.get_ofList l i⟩
/-- l with vs laid in from o on. -/
def lay (l : List Value) (o : Nat) (vs : List Value) : List Value := l.take o ++ vs ++ l.drop (o + vs.length)
theorem lay_length {l : List Value} {o : Nat} {vs : List Value} (h : o + vs.length ≤ l.length) : (lay l o vs).length = l.length := by simp [lay]; omega
theorem lay_get {l : List Value} {o : Nat} {vs : List Value} (h : o + vs.length ≤ l.length) (i : Nat) : (lay l o vs)[i]? = if o ≤ i ∧ i < o + vs.length then vs[i - o]? else l[i]? := by
  unfold lay
  by_cases h1 : i < o
  · rw [List.append_assoc, List.getElem?_append_left (by simp; omega), List.getElem?_take, if_pos h1, if_neg (by omega)]
  · by_cases h2 : i < o + vs.length
    · rw [List.append_assoc, List.getElem?_append_right (by simp; omega), List.getElem?_append_left (by simp; omega), if_pos (by omega)]
      congr 1
      simp; omega
    · rw [List.append_assoc, List.getElem?_append_right (by simp; omega), List.getElem?_append_right (by simp; omega), if_neg (by omega), List.getElem?_drop]
      congr 1
      simp; omega
theorem Row.store {h : Hp} (ok : h.t.Sized h.n) {b : Nat} {l : List Value} {md : Nat} (r : Row h b l md) (hmd : md ≠ 0) {o : Nat} {vs : List Value} (ho : o + vs.length ≤ l.length) (hv : vs.all flatV = true) :
    ∃ x, h.store b o vs = some (h.put b x) ∧ Row (h.put b x) b (lay l o vs) md := by
  obtain ⟨t, el, a, d, c⟩ := r
  refine ⟨.cells (t.setAll o vs) l.length el md, ?_, ?_⟩
  · unfold Hp.store
    rw [a]
    simp only []
    have hb : Nat.beq md 0 = false := by
      cases hx : Nat.beq md 0 with
      | false => rfl
      | true => exact absurd (Nat.eq_of_beq_eq_true hx) hmd
    rw [Nat.ble_eq_true_of_le ho, hb, hv]
    rfl
  · refine ⟨t.setAll o vs, el, ?_, ?_, fun i => ?_⟩
    · rw [Hp.get_put, if_pos ⟨rfl, by rw [a]; rfl⟩, lay_length ho]
    · rw [lay_length ho]; exact Tr.sized_setAll o vs d
    · rw [Tr.get_setAll t o vs l.length d ho, lay_get ho, c]
theorem put_get_ne {h : Hp} {b b' : Nat} {x : Blk} (hne : b' ≠ b) : (h.put b x).get b' = h.get b' := get_put_ne (Ne.symm hne)
theorem Row.put_ne {h : Hp} {b b' : Nat} {x : Blk} {l : List Value} {md : Nat} (r : Row h b' l md) (hne : b' ≠ b) : Row (h.put b x) b' l md := by
  obtain ⟨t, el, a, c, d⟩ := r; exact ⟨t, el, by rw [put_get_ne hne]; exact a, c, d⟩
/-- One cell. -/
theorem lay_one (v w : Value) : lay [v] 0 [w] = [w] := rfl
end Go.Ab

/- An operation looks at its own operands alone. -/
namespace Go.Ab

theorem pop_ext {E : Env} {op : Op} {ρ ρ' : Operand → Value} (e : ∀ x ∈ op.operands.toList, ρ x = ρ' x) : pop E ρ op = pop E ρ' op := by
  cases op
  case build t ps =>
    simp only [pop]
    congr 1
    apply List.map_congr_left
    intro p hp
    rw [e p.2 (by simp only [Op.operands]; simp; exact ⟨p.1, by simpa using hp⟩)]
  case makeFunc fn a b =>
    cases fn <;> (try rfl)
    simp only [pop]
    have h1 : a.map ρ = a.map ρ' := by
      apply Array.map_congr_left
      intro x hx
      exact e x (by simp only [Op.operands]; simp; exact .inl hx)
    have h2 : b.map ρ = b.map ρ' := by
      apply Array.map_congr_left
      intro x hx
      exact e x (by simp only [Op.operands]; simp; exact .inr hx)
    rw [h1, h2]
  case slice t x l h m =>
    simp only [pop]
    have hx := e x (by simp [Op.operands])
    have hl : l.map ρ = l.map ρ' := by cases l with | none => rfl | some y => simp [e y (by simp [Op.operands])]
    have hh : h.map ρ = h.map ρ' := by cases h with | none => rfl | some y => simp [e y (by simp [Op.operands])]
    have hm : m.map ρ = m.map ρ' := by cases m with | none => rfl | some y => simp [e y (by simp [Op.operands])]
    rw [hx, hl, hh, hm]
  case call c =>
    have ha : c.args.toList.map ρ = c.args.toList.map ρ' := by
      apply List.map_congr_left
      intro x hx
      refine e x ?_
      simp only [Op.operands, Call.operands]
      cases c.callee <;> simp_all
    cases hc : c.callee with
    | value f => simp only [pop, hc]
    | invoke r n => simp only [pop, hc]
    | builtin b =>
      cases b <;> simp only [pop, hc] <;> (try rfl)
      · cases hl : c.args.toList with
        | nil => cases c.argTypes.toList <;> rfl
        | cons x xs =>
          have hx : ρ x = ρ' x := e x (by
            have : x ∈ c.args.toList := by rw [hl]; exact List.mem_cons_self
            simp only [Op.operands, Call.operands, hc]; simpa using this)
          cases c.argTypes.toList with
          | nil => rfl
          | cons t ts => simp only [hx]
      · rw [ha]
      · rw [ha]
  all_goals (try rfl)
  all_goals first
    | (unfold Op.operands at e; simp at e; simp only [pop]; simp [e]; done)
    | (simp only [pop]; done)
    | (cases ‹Fn› <;> simp only [pop]; done)

theorem aop_ext {E : Env} {op : Op} {h : Hp} {ρ ρ' : Operand → Value} (e : ∀ x ∈ op.operands.toList, ρ x = ρ' x) : aop E ρ h op = aop E ρ' h op := by
  have hp := pop_ext (E := E) e
  cases op
  case buildSlice t n ps =>
    simp only [aop]
    congr 2
    apply List.map_congr_left
    intro p hp
    rw [e p.2 (by simp only [Op.operands]; simp; exact ⟨p.1, by simpa using hp⟩)]
  case makeMap t r => cases r <;> simp only [aop, hp]
  case call c =>
    have ha : c.args.toList.map ρ = c.args.toList.map ρ' := by
      apply List.map_congr_left
      intro x hx
      refine e x ?_
      simp only [Op.operands, Call.operands]
      cases c.callee <;> simp_all
    have hx : ∀ x ∈ c.args.toList, ρ x = ρ' x := by
      intro x hx
      refine e x ?_
      simp only [Op.operands, Call.operands]
      cases c.callee <;> simp_all
    cases hc : c.callee with
    | value f =>
      have hf : ρ f = ρ' f := e f (by simp [Op.operands, Call.operands, hc])
      simp only [aop, hc, ha, hf]
    | invoke r n => simp only [aop, hc]
    | builtin b =>
      cases b <;> simp only [aop, hc, hp] <;> (try rfl)
      all_goals (cases hl : c.args.toList with
        | nil => first | rfl | (cases c.argTypes.toList <;> rfl)
        | cons s xs =>
          simp only [hl] at hx
          have h1 := hx s List.mem_cons_self
          cases xs with
          | nil => first | rfl | (cases c.argTypes.toList <;> rfl) | simp only [h1]
          | cons y ys =>
            have h2 := hx y (List.mem_cons_of_mem _ List.mem_cons_self)
            first | rfl | (simp only [h1, h2]; done) | (simp only [h1]; done) | (cases c.argTypes.toList with
              | nil => rfl
              | cons t ts => simp only [h1, h2]))
  case defer c =>
    have ha : c.args.toList.map ρ = c.args.toList.map ρ' := by
      apply List.map_congr_left
      intro x hx
      refine e x ?_
      simp only [Op.operands, Call.operands]
      cases c.callee <;> simp_all
    cases hc : c.callee with
    | value f =>
      have hf : ρ f = ρ' f := e f (by simp [Op.operands, Call.operands, hc])
      simp only [aop, hc, ha, hf]
    | invoke r n => simp only [aop, hc]
    | builtin b => simp only [aop, hc]
  all_goals first
    | (simp only [aop]; done)
    | (simp only [aop, hp]; done)
    | (unfold Op.operands at e; simp at e; simp only [aop, e]; done)
theorem touch_ext {op : Op} {ρ ρ' : Operand → Value} (e : ∀ x ∈ op.operands.toList, ρ x = ρ' x) : touch ρ op = touch ρ' op := by
  cases op
  case call c =>
    simp only [touch]
    cases hl : c.args.toList with
    | nil => rfl
    | cons x xs =>
      simp only []
      rw [e x (by simp only [Op.operands, Call.operands]; cases c.callee <;> simp_all)]
  all_goals first
    | rfl
    | (unfold Op.operands at e; simp at e; simp only [touch, e]; done)
    | (simp only [touch]; done)
theorem evD_own (l : Loc) (op : Op) : ∀ x ∈ op.operands.toList, l.evD (tmpsOf op.operands.toList) x = l.ev x := by
  intro x hx
  cases x with
  | tmp t =>
    simp only [Loc.evD]
    rw [(memb_iff t _).2 ((mem_tmpsOf t _).2 hx)]
    rfl
  | _ => rfl

/-! ### operations of a region that draws its order -/
def StepN (E : Env) (K : Value → Hp → Prop) : Option (ANext × Hp) → Prop
  | some (.val v, h') => K v h'
  | some (.skip, h') => K (.tuple #[]) h'
  | some (.call f args, h') => CallQ E f args none h' fun x _ h'' => match x with
    | .ret v => K v h''
    | .pan _ => False
  | some (.yield b args, h') => RoundQ E b args h' fun x h'' => match x with
    | .ret v => K v h''
    | .pan _ => False
  | _ => False
theorem opVal_n {E : Env} {x : Option (ANext × Hp)} {K : Value → Hp → Prop} : (∃ v h', opVal E (lim E) x = some (.ret v, h') ∧ K v h') ↔ StepN E K x := by
  cases x with
  | none => exact ⟨fun ⟨_, _, a, _⟩ => (by cases a), fun h => h.elim⟩
  | some q =>
    obtain ⟨nx, h1⟩ := q
    cases nx with
    | val v => exact ⟨fun ⟨_, _, a, b⟩ => (by cases a; exact b), fun h => ⟨_, _, rfl, h⟩⟩
    | skip => exact ⟨fun ⟨_, _, a, b⟩ => (by cases a; exact b), fun h => ⟨_, _, rfl, h⟩⟩
    | panic v => exact ⟨fun ⟨_, _, a, _⟩ => (by cases a), fun h => h.elim⟩
    | recov => exact ⟨fun ⟨_, _, a, _⟩ => (by cases a), fun h => h.elim⟩
    | defer d => exact ⟨fun ⟨_, _, a, _⟩ => (by cases a), fun h => h.elim⟩
    | call f args =>
      simp only [StepN, opVal, CallQ]
      constructor
      · intro ⟨v, h', a, b⟩
        cases hc : (lim E).call f args none h1 with
        | none => rw [hc] at a; cases a
        | some q => obtain ⟨x, rc, h2⟩ := q; rw [hc] at a; cases a; exact ⟨_, _, _, rfl, b⟩
      · intro ⟨x, rc, h2, a, b⟩
        rw [a]
        cases x with
        | ret v => exact ⟨_, _, rfl, b⟩
        | pan v => exact b.elim
    | yield b args =>
      simp only [StepN, opVal, RoundQ]
      constructor
      · intro ⟨v, h', a, c⟩; exact ⟨_, _, a, c⟩
      · intro ⟨x, h2, a, c⟩
        cases x with
        | ret v => exact ⟨_, _, a, c⟩
        | pan v => exact c.elim
theorem stepD_iff {E : Env} {l : Loc} {quiet : Bool} {o : Oper} {h : Hp} {K : Value → Hp → Prop} : (∃ v h', stepD E (lim E) (l.evD (tmpsOf o.op.operands.toList)) quiet o h = some (v, h') ∧ K v h') ↔
    (if quiet = true then StepN E (fun v h' => Nat.ble h.n h'.lo = true ∧ K v { h' with lo := h.lo }) (aop E l.ev { h with lo := h.n } o.op) else StepN E K (aop E l.ev h o.op)) := by
  have e := evD_own l o.op
  unfold stepD
  cases quiet with
  | false =>
    rw [if_neg (by simp)]
    simp only [cond_false]
    rw [aop_ext e, ← opVal_n]
    constructor
    · intro ⟨v, h', a, b⟩
      cases hx : opVal E (lim E) (aop E l.ev h o.op) with
      | none => rw [hx] at a; cases a
      | some q => obtain ⟨x, h2⟩ := q; rw [hx] at a; cases x <;> cases a; exact ⟨_, _, rfl, b⟩
    · intro ⟨v, h', a, b⟩; rw [a]; exact ⟨_, _, rfl, b⟩
  | true =>
    rw [if_pos rfl]
    simp only [cond_true]
    rw [aop_ext e, ← opVal_n]
    constructor
    · intro ⟨v, h', a, b⟩
      cases hx : opVal E (lim E) (aop E l.ev { h with lo := h.n } o.op) with
      | none => rw [hx] at a; cases a
      | some q =>
        obtain ⟨x, h2⟩ := q
        rw [hx] at a
        cases x with
        | pan v => cases a
        | ret v =>
          simp only [] at a
          cases hb : Nat.ble h.n h2.lo with
          | false => rw [hb] at a; cases a
          | true => rw [hb] at a; cases a; exact ⟨_, _, rfl, hb, b⟩
    · intro ⟨v, h', a, hb, b⟩
      rw [a]
      simp only [hb, cond_true]
      exact ⟨_, _, rfl, b⟩
theorem noteOf_ext {op : Op} {ρ ρ' : Operand → Value} {b : Bool} {h h' : Hp} (e : ∀ x ∈ op.operands.toList, ρ x = ρ' x) : noteOf ρ b op h h' = noteOf ρ' b op h h' := by
  unfold noteOf touchA; rw [touch_ext e]
theorem noteOf_quiet {op : Op} {ρ : Operand → Value} {h h' : Hp} : noteOf ρ true op h h' = noteOf ρ true op h h := rfl
theorem run_opsD {E : Env} {cx : Cx} {Q : Post} {k : List Fr} {l : Loc} {h : Hp} {a os : List Oper} {o : Oper} {q i : Nat} {ps : List (Nat × Nat)} {tr : List (Nat × Tch)} : Run E (lim E) cx Q (.opsD a q ps (o :: os) i tr :: k) .normal l h ↔ ∃ b, guardOk a l.regs o = some b ∧
    (if b = true then (if hush E q i o.op = true then
          StepN E (fun v h' => Nat.ble h.n h'.lo = true ∧ Run E (lim E) cx Q (.opsD a q ps os (i + 1) (noted i tr (noteOf l.ev true o.op h h)) :: k) .normal (l.put o.dst v) { h' with lo := h.lo }) (aop E l.ev { h with lo := h.n } o.op)
        else StepN E (fun v h' => Run E (lim E) cx Q (.opsD a q ps os (i + 1) (noted i tr (noteOf l.ev false o.op h h')) :: k) .normal (l.put o.dst v) h') (aop E l.ev h o.op))
      else Run E (lim E) cx Q (.opsD a q ps os (i + 1) tr :: k) .normal (l.put o.dst (.tuple #[])) h) := by
  rw [run_opsD_cons]
  simp only [noteOf_ext (evD_own l o.op), stepD_iff]
  cases hush E q i o.op with
  | true =>
    simp only [if_pos]
    exact Iff.rfl
  | false => exact Iff.rfl
theorem stepN_val {E : Env} {K : Value → Hp → Prop} {v : Value} {h : Hp} : StepN E K (some (.val v, h)) ↔ K v h := Iff.rfl
theorem stepN_skip {E : Env} {K : Value → Hp → Prop} {h : Hp} : StepN E K (some (.skip, h)) ↔ K (.tuple #[]) h := Iff.rfl
theorem stepN_ret {E : Env} {K : Value → Hp → Prop} {f : FuncId} {args : List Value} {h : Hp} {Q : Value → Hp → Prop} (hr : Ret E f args h Q) (hk : ∀ v h', Q v h' → K v h') : StepN E K (some (.call f args, h)) := by
  obtain ⟨v, h', a, b⟩ := hr
  exact ⟨.ret v, none, h', a, hk v h' b⟩
end Go.Ab

/- The evaluator once more, in a shape that the kernel runs faster: recursors with small parts, continuations. -/
namespace Go.Ab
noncomputable section
abbrev Opt := Option (Ex × Loc × Hp)

def getK {α : Type} (t : Tr α) : Nat → Option α := Tr.rec (motive := fun _ => Nat → Option α) (fun _ => none)
  (fun x _ _ gl gr i => Nat.rec (some x) (fun n _ => Bool.rec (gr (n / 2)) (gl (n / 2)) (Nat.beq (n % 2) 0)) i) t
def setK {α : Type} (t : Tr α) : Nat → α → Tr α := Tr.rec (motive := fun _ => Nat → α → Tr α) (fun _ _ => .nil)
  (fun y l r sl sr i x => Nat.rec (.node x l r) (fun n _ => Bool.rec (.node y l (sr (n / 2) x)) (.node y (sl (n / 2) x) r) (Nat.beq (n % 2) 0)) i) t
def putK (l : Loc) (d : Option Tmp) (v : Value) : Loc := Option.rec l (fun t => Loc.mk (setK l.regs t v) l.dfs l.rc) d
def evK (l : Loc) (x : Operand) : Value := Operand.rec (motive := fun _ => Loc → Value) (fun t l => Option.rec (.tuple #[]) (fun v => v) (getK l.regs t)) (fun v _ => Bool.rec poison v (okConst v))
  (fun g _ => Bool.rec poison (.pointer (some ⟨g, 0, none⟩)) (Nat.blt g 16)) (fun f _ => .func (.func f) #[] #[]) x l
def exK (e : Ex) : (Loc → Hp → Opt) → (Ex → Loc → Hp → Opt) → Loc → Hp → Opt := Ex.rec (motive := fun _ => (Loc → Hp → Opt) → (Ex → Loc → Hp → Opt) → Loc → Hp → Opt)
  (fun kn _ l h => kn l h) (fun id _ ka l h => ka (.exit id) l h) (fun _ ka l h => ka .ret l h) (fun v _ ka l h => ka (.pan v) l h) e
def bind2 (x : Opt) (kn : Loc → Hp → Opt) (ka : Ex → Loc → Hp → Opt) : Opt := Option.rec none (fun q => Prod.rec (fun e q2 => Prod.rec (fun l h => exK e kn ka l h) q2) q) x
def asInt : Value → Option (IntKind × Int)
  | .int k n => some (k, n)
  | _ => none
def slowB : Env → BinOp → TypeId → Operand → Operand → Value → Value → Option Value := binP
abbrev BM := IntKind → Int → IntKind → Int → Option Value → Option Value
def arK (f : IntKind → Int → Int → Option Value) : BM := fun k m k' n _ => Bool.rec none (f k m n) (keqb k k')
def binI (op : BinOp) : BM := BinOp.rec (motive := fun _ => BM)
  (add := arK fun k x y => some (.int k (wrapI k (x + y)))) (sub := arK fun k x y => some (.int k (wrapI k (x - y)))) (mul := arK fun k x y => some (.int k (wrapI k (x * y))))
  (quo := fun _ _ _ _ s => s) (rem := fun _ _ _ _ s => s) (and := fun _ _ _ _ s => s) (or := fun _ _ _ _ s => s) (xor := fun _ _ _ _ s => s) (andNot := fun _ _ _ _ s => s) (shl := fun _ _ _ _ s => s) (shr := fun _ _ _ _ s => s)
  (eql := arK fun _ x y => some (.bool (ibeq x y))) (neq := arK fun _ x y => some (.bool (!ibeq x y))) (lss := arK fun _ x y => some (.bool (iblt x y))) (leq := arK fun _ x y => some (.bool (!iblt y x)))
  (gtr := arK fun _ x y => some (.bool (iblt y x))) (geq := arK fun _ x y => some (.bool (!iblt x y))) op
def binK (E : Env) (op : BinOp) (t : TypeId) (x y : Operand) (a b : Value) : Option Value :=
  Option.rec (binP E op t x y a b) (fun p => Option.rec (binP E op t x y a b) (fun q => binI op p.1 p.2 q.1 q.2 (binP E op t x y a b)) (asInt b)) (asInt a)
abbrev OpM := Env → Rec → Cx → Option Tmp → Loc → Hp → (Loc → Hp → Opt) → (Ex → Loc → Hp → Opt) → Opt
def retK (r : Option Value) (d : Option Tmp) (l : Loc) (h : Hp) (kn : Loc → Hp → Opt) : Opt := Option.rec none (fun v => kn (putK l d v) h) r
def retHK (r : Option (Hp × Value)) (d : Option Tmp) (l : Loc) (kn : Loc → Hp → Opt) : Opt := Option.rec none (fun p => Prod.rec (fun h v => kn (putK l d v) h) p) r
def retUK (r : Option Hp) (d : Option Tmp) (l : Loc) (kn : Loc → Hp → Opt) : Opt := Option.rec none (fun h => kn (putK l d (.tuple #[])) h) r
def slowK (op : Op) : OpM := fun E R cx d l h kn ka => bind2 (stepOp E R cx ⟨d, op, 0, "", #[], none⟩ l h) kn ka
def outK (o : Out) : Option Tmp → Loc → Hp → (Loc → Hp → Opt) → (Ex → Loc → Hp → Opt) → Opt := Out.rec (motive := fun _ => Option Tmp → Loc → Hp → (Loc → Hp → Opt) → (Ex → Loc → Hp → Opt) → Opt)
  (fun v d l h kn _ => kn (putK l d v) h) (fun v _ l h _ ka => ka (.pan v) l h) o
def resK (r : Option (Out × Option (Value × Bool) × Hp)) (d : Option Tmp) (l : Loc) (kn : Loc → Hp → Opt) (ka : Ex → Loc → Hp → Opt) : Opt := Option.rec none (fun q => Prod.rec (fun o q2 => Prod.rec (fun _ h => outK o d l h kn ka) q2) q) r
def asFn : Value → Option (FuncId × Array Value × Array Value)
  | .func (.func g) a b => some (g, a, b)
  | _ => none
def callK (c : Call) : OpM := fun E R cx d l h kn ka => Callee.rec (motive := fun _ => Opt)
  (fun f => Option.rec (slowK (.call c) E R cx d l h kn ka) (fun p => resK (R.call p.1 (p.2.1.toList ++ c.args.toList.map (evK l) ++ p.2.2.toList) none h) d l kn ka) (asFn (evK l f)))
  (fun _ _ => slowK (.call c) E R cx d l h kn ka) (fun _ => slowK (.call c) E R cx d l h kn ka) c.callee
def opK (op : Op) : OpM := Op.rec (motive := fun _ => OpM)
  (move := fun x _ _ _ d l h kn _ => kn (putK l d (evK l x)) h)
  (assign := fun x _ _ _ d l h kn _ => kn (putK l d (evK l x)) h)
  (pick := fun c a b => slowK (.pick c a b))
  (alloc := fun e => slowK (.alloc e))
  (box := fun e v => slowK (.box e v))
  (build := fun t ps => slowK (.build t ps))
  (buildSlice := fun t n ps => slowK (.buildSlice t n ps))
  (insert := fun t m k v => slowK (.insert t m k v))
  (load := fun t a E _ _ d l h kn _ => retK (loadV E h t (evK l a)) d l h kn)
  (store := fun t a v E _ _ d l h kn _ => retUK (storeV E h t (evK l a) (evK l v)) d l kn)
  (ready := fun g => slowK (.ready g))
  (waits := fun g => slowK (.waits g))
  (nilCheck := fun x => slowK (.nilCheck x))
  (binOp := fun op t x y u E _ _ d l h kn _ => retK (binK E op t x y (evK l x) (evK l y)) d l h kn)
  (unOp := fun op t x E _ _ d l h kn _ => retK (unP op (evK l x)) d l h kn)
  (convert := fun s t x => slowK (.convert s t x))
  (sliceToArrayPointer := fun t x => slowK (.sliceToArrayPointer t x))
  (makeInterface := fun t x => slowK (.makeInterface t x))
  (makeFunc := fun f a b => slowK (.makeFunc f a b))
  (makeMap := fun t r => slowK (.makeMap t r))
  (makeChan := fun t s => slowK (.makeChan t s))
  (makeSlice := fun t a c => slowK (.makeSlice t a c))
  (slice := fun t x a b c => slowK (.slice t x a b c))
  (fieldAddr := fun s x i E _ _ d l h kn _ => retK (fieldAddrP E s (evK l x) i) d l h kn)
  (field := fun t x i E _ _ d l h kn _ => retK (fieldP E t (evK l x) i) d l h kn)
  (indexAddr := fun t x i E _ _ d l h kn _ => retK (indexAddrP E t (evK l x) (evK l i)) d l h kn)
  (index := fun t x i E _ _ d l h kn _ => retK (indexP E t (evK l x) (evK l i)) d l h kn)
  (lookup := fun t m k ok E _ _ d l h kn _ => retK (lookupV E h t (evK l m) (evK l k) ok) d l h kn)
  (mapUpdate := fun t m k v E _ _ d l h kn _ => retUK (mapPut E h t (evK l m) (evK l k) (evK l v)) d l kn)
  (mapEntry := fun t m k E _ _ d l h kn _ => retHK (mapEnt E h t (evK l m) (evK l k)) d l kn)
  (entryStore := fun t m s v => slowK (.entryStore t m s v))
  (range := fun t x => slowK (.range t x))
  (next := fun i s => slowK (.next i s))
  (entry := fun i => slowK (.entry i))
  (typeAssert := fun x s t ok => slowK (.typeAssert x s t ok))
  (extract := fun t i => slowK (.extract t i))
  (call := fun c => callK c)
  (go := fun c => slowK (.go c))
  (defer := fun c => slowK (.defer c))
  (panic := fun x => slowK (.panic x))
  (send := fun c x => slowK (.send c x))
  (recv := fun t c ok => slowK (.recv t c ok))
  (select := fun cs b => slowK (.select cs b)) op
def guardK (ops : List Oper) (l : Loc) (o : Oper) : Option Bool := Option.rec (some true) (fun _ => guardOk ops l.regs o) o.guard
def opsK (E : Env) (R : Rec) (cx : Cx) (ops : List Oper) (kn : Loc → Hp → Opt) (ka : Ex → Loc → Hp → Opt) (os : List Oper) : Loc → Hp → Opt := List.rec (motive := fun _ => Loc → Hp → Opt) kn
  (fun o _ ih l h => Option.rec none (fun b => Bool.rec (ih (putK l o.dst (.tuple #[])) h) (opK o.op E R cx o.dst l h ih ka) b) (guardK ops l o)) os
/-- Operations that answer at once. -/
def fastOp (op : Op) : Bool := Op.rec (motive := fun _ => Bool)
  (move := fun _ => true) (assign := fun _ => true) (pick := fun _ _ _ => false) (alloc := fun _ => false) (box := fun _ _ => false) (build := fun _ _ => false) (buildSlice := fun _ _ _ => false)
  (insert := fun _ _ _ _ => false) (load := fun _ _ => true) (store := fun _ _ _ => true) (ready := fun _ => false) (waits := fun _ => false) (nilCheck := fun _ => false) (binOp := fun _ _ _ _ _ => true)
  (unOp := fun _ _ _ => true) (convert := fun _ _ _ => false) (sliceToArrayPointer := fun _ _ => false) (makeInterface := fun _ _ => false) (makeFunc := fun _ _ _ => false) (makeMap := fun _ _ => false)
  (makeChan := fun _ _ => false) (makeSlice := fun _ _ _ => false) (slice := fun _ _ _ _ _ => false) (fieldAddr := fun _ _ _ => true) (field := fun _ _ _ => true) (indexAddr := fun _ _ _ => true) (index := fun _ _ _ => true)
  (lookup := fun _ _ _ _ => true) (mapUpdate := fun _ _ _ _ => true) (mapEntry := fun _ _ _ => true) (entryStore := fun _ _ _ _ => false) (range := fun _ _ => false) (next := fun _ _ => false) (entry := fun _ => false)
  (typeAssert := fun _ _ _ _ => false) (extract := fun _ _ => false) (call := fun _ => false) (go := fun _ => false) (defer := fun _ => false) (panic := fun _ => false) (send := fun _ _ => false) (recv := fun _ _ _ => false)
  (select := fun _ _ => false) op
def hushK (E : Env) (q i : Nat) (op : Op) : Bool := Bool.rec (Bool.rec false (Nat.ble 3 (cls E op)) (Nat.testBit q i)) false (Nat.beq q 0)
def outDK (o : Out) : (Value → Hp → Opt) → Hp → Opt := Out.rec (motive := fun _ => (Value → Hp → Opt) → Hp → Opt) (fun v k h => k v h) (fun _ _ _ => none) o
def resDK (r : Option (Out × Option (Value × Bool) × Hp)) (k : Value → Hp → Opt) : Opt := Option.rec none (fun q => Prod.rec (fun o q2 => Prod.rec (fun _ h => outDK o k h) q2) q) r
/-- A step of a drawn region, by its own road. -/
def slowDK (E : Env) (R : Rec) (qb : Bool) (o : Oper) (l : Loc) (h : Hp) (k : Value → Hp → Opt) : Opt := Option.rec none (fun p => k p.1 p.2) (stepD E R l.ev qb o h)
def quietK (h : Hp) (k : Value → Hp → Opt) (v : Value) (h' : Hp) : Opt := Bool.rec none (k v { h' with lo := h.lo }) (Nat.ble h.n h'.lo)
def callDK (E : Env) (R : Rec) (qb : Bool) (o : Oper) (c : Call) (l : Loc) (h : Hp) (k : Value → Hp → Opt) : Opt := Callee.rec (motive := fun _ => Opt)
  (fun f => Option.rec (slowDK E R qb o l h k) (fun p => Bool.rec (resDK (R.call p.1 (p.2.1.toList ++ c.args.toList.map (evK l) ++ p.2.2.toList) none h) k)
    (resDK (R.call p.1 (p.2.1.toList ++ c.args.toList.map (evK l) ++ p.2.2.toList) none { h with lo := h.n }) (quietK h k)) qb) (asFn (evK l f)))
  (fun _ _ => slowDK E R qb o l h k) (fun _ => slowDK E R qb o l h k) c.callee
def asCall (op : Op) : Option Call := match op with
  | .call c => some c
  | _ => none
def elseDK (E : Env) (R : Rec) (qb : Bool) (o : Oper) (l : Loc) (h : Hp) (k : Value → Hp → Opt) : Opt := Option.rec (slowDK E R qb o l h k) (fun c => callDK E R qb o c l h k) (asCall o.op)
def touchK (l : Loc) (op : Op) : Option Tch := match touch (l.evD (tmpsOf op.operands.toList)) op with
  | none => none
  | some b => some (.blk b)
abbrev DM := Nat → Loc → Hp → List (Nat × Tch) → Opt
def stepDK (E : Env) (R : Rec) (cx : Cx) (q : Nat) (o : Oper) (ih : DM) (i : Nat) (l : Loc) (h : Hp) (tr : List (Nat × Tch)) : Opt :=
  Bool.rec (elseDK E R (hushK E q i o.op) o l h fun v h' => ih (i + 1) (putK l o.dst v) h' (noted i tr (noteOf (l.evD (tmpsOf o.op.operands.toList)) (hushK E q i o.op) o.op h h')))
    (Bool.rec (opK o.op E R cx o.dst l h (fun l' h' => ih (i + 1) l' h' (noted i tr (touchK l o.op))) (fun _ _ _ => none))
      (slowDK E R true o l h fun v h' => ih (i + 1) (putK l o.dst v) h' (noted i tr (touchK l o.op))) (hushK E q i o.op)) (fastOp o.op)
def opsDK (E : Env) (R : Rec) (cx : Cx) (ops : List Oper) (q : Nat) (fin : DM) (os : List Oper) : DM := List.rec (motive := fun _ => DM) fin
  (fun o _ ih i l h tr => Option.rec none (fun b => Bool.rec (ih (i + 1) (putK l o.dst (.tuple #[])) h tr) (stepDK E R cx q o ih i l h tr) b) (guardK ops l o)) os
def drawKo (E : Env) (R : Rec) (cx : Cx) (ops : List Oper) (l : Loc) (h : Hp) (kn : Loc → Hp → Opt) : Opt :=
  Option.rec none (fun p => opsDK E R cx ops p.1 (fun _ l h tr => Bool.rec none (kn l h) (pairsOk tr p.2)) ops 0 l h []) (plan E ops)
def drawK (E : Env) (R : Rec) (cx : Cx) (ops : List Oper) (l : Loc) (h : Hp) (kn : Loc → Hp → Opt) : Opt := drawKo E R cx (hoist ops) l h kn

abbrev CodeM := Cx → Code → Loc → Hp → (Loc → Hp → Opt) → (Ex → Loc → Hp → Opt) → Opt
def asBool : Value → Option Bool
  | .bool b => some b
  | _ => none
def blkK (e : Ex) : Nat → (Loc → Hp → Opt) → (Ex → Loc → Hp → Opt) → Loc → Hp → Opt := Ex.rec (motive := fun _ => Nat → (Loc → Hp → Opt) → (Ex → Loc → Hp → Opt) → Loc → Hp → Opt)
  (fun _ kn _ l h => kn l h) (fun i id kn ka l h => Bool.rec (ka (.exit i) l h) (kn l h) (Nat.beq i id)) (fun _ _ ka l h => ka .ret l h) (fun v _ _ ka l h => ka (.pan v) l h) e
def codeK (E : Env) (R : Rec) (M : CodeM) (cx : Cx) (c : Code) : Loc → Hp → (Loc → Hp → Opt) → (Ex → Loc → Hp → Opt) → Opt := Code.rec (motive := fun _ => Loc → Hp → (Loc → Hp → Opt) → (Ex → Loc → Hp → Opt) → Opt)
  (skip := fun l h kn _ => kn l h)
  (region := fun _ ops draw l h kn ka => Bool.rec (opsK E R cx ops.toList kn ka ops.toList l h) (drawK E R cx ops.toList l h kn) draw)
  (seq := fun _ _ iha ihb l h kn ka => iha l h (fun l h => ihb l h kn ka) ka)
  (cond := fun c _ _ iha ihb l h kn ka => Option.rec none (fun t => Bool.rec (ihb l h kn ka) (iha l h kn ka) t) (asBool (evK l c)))
  (block := fun id _ ih l h kn ka => ih l h kn (fun e l h => blkK e id kn ka l h))
  (loop := fun b ih l h kn ka => ih l h (fun l h => M cx (.loop b) l h kn ka) ka)
  (rangeFunc := fun f ps asg body _ _ l h kn ka => bind2 (rangeStep R cx (evK l f) ps asg body l h) kn ka)
  (exit := fun id l h _ ka => ka (.exit id) l h)
  (scope := fun _ ih l h kn ka => ih l h kn ka)
  (label := fun _ l h kn _ => kn l h)
  (goto := fun _ _ _ _ _ => none)
  (ret := fun l h _ ka => ka .ret l h)
  (refuse := fun _ _ _ _ _ => none) c
abbrev ResK := Option (Out × Option (Value × Bool) × Hp)
def slowDone (E : Env) (R : Rec) (fn : Func) (l : Loc) (h' : Hp) : ResK := match unwindA R l.dfs none h' with
  | some (none, h'') => match readRes E l.regs h'' fn.results.toList with
    | none => none
    | some vs => some (.ret (tupleOf vs), l.rc, h'')
  | _ => none
def doneK (E : Env) (R : Rec) (fn : Func) (l : Loc) (h : Hp) : ResK := List.rec (motive := fun _ => ResK)
  (Option.rec none (fun vs => some (.ret (tupleOf vs), l.rc, h)) (readRes E l.regs h fn.results.toList)) (fun _ _ _ => slowDone E R fn l h) l.dfs
def slowPan (E : Env) (R : Rec) (fn : Func) (v : Value) (l : Loc) (h' : Hp) : ResK := match unwindA R l.dfs (some v) h' with
  | none => none
  | some (some v, h'') => some (.pan v, l.rc, h'')
  | some (none, h'') => match readRes E l.regs h'' fn.results.toList with
    | none => none
    | some vs => some (.ret (tupleOf vs), l.rc, h'')
def exLeave (e : Ex) : Env → Rec → Func → Loc → Hp → ResK := Ex.rec (motive := fun _ => Env → Rec → Func → Loc → Hp → ResK) doneK (fun _ _ _ _ _ _ => none) doneK (fun v E R fn l h => slowPan E R fn v l h) e
def leaveK (E : Env) (R : Rec) (fn : Func) (r : Opt) : ResK := Option.rec none (fun q => Prod.rec (fun e q2 => Prod.rec (fun l h => exLeave e E R fn l h) q2) q) r
def callFn (E : Env) (R : Rec) (f : FuncId) (args : List Value) (rc : Option (Value × Bool)) (h : Hp) (fn : Func) (body : Code) : ResK :=
  Bool.rec none (leaveK E R fn (R.code ⟨f, fn.ntmps, none⟩ body ⟨(Tr.blank (.tuple #[]) fn.ntmps fn.ntmps).setAll 0 args, [], rc⟩ h)) (Nat.ble args.length fn.ntmps)
def callBK (E : Env) (R : Rec) (f : FuncId) (args : List Value) (rc : Option (Value × Bool)) (h : Hp) : ResK :=
  Option.rec none (fun fn => Option.rec none (fun body => callFn E R f args rc h fn body) fn.body) (E.fn f)
def callSK (E : Env) (R : Rec) (f : FuncId) (args : List Value) (rc : Option (Value × Bool)) (h : Hp) : ResK :=
  Option.rec (callBK E R f args rc h) (fun v => Option.rec (some (.ret v, none, h)) (fun _ => none) rc) (E.orc f args)
structure RK where
  call : FuncId → List Value → Option (Value × Bool) → Hp → ResK
  code : CodeM
def RK.rec' (K : RK) : Rec := ⟨K.call, fun cx c l h => K.code cx c l h (fun l h => some (.normal, l, h)) (fun e l h => some (e, l, h))⟩
def botK : RK := ⟨fun _ _ _ _ => none, fun _ _ _ _ _ _ => none⟩
def nextRK (E : Env) (K : RK) : RK := ⟨fun f args rc h => callSK E K.rec' f args rc h, fun cx c l h kn ka => codeK E K.rec' K.code cx c l h kn ka⟩
def runK (E : Env) (n : Nat) : RK := Nat.rec botK (fun _ K => nextRK E K) n
/-- An environment, for the kernel. -/
def envK (fns : Tr Func) (tys : Tr TypeInfo) (eqs : List Nat) : Env := { fn := fun f => getK fns f, ty := fun t => getK tys t, eqok := fun t => memb t eqs }
/-- The heap at the outset. -/
def hpK : Hp := { n := 16, t := Tr.ofList (List.replicate 16 .dead), lo := 16 }
end
end Go.Ab

/- The evaluator for the kernel is the evaluator: operations, regions. -/
namespace Go.Ab
noncomputable section
theorem getK_eq {α : Type} (t : Tr α) (i : Nat) : getK t i = t.get i := rfl
theorem setK_eq {α : Type} (t : Tr α) (i : Nat) (x : α) : setK t i x = t.set i x := rfl

theorem putK_eq (l : Loc) (d : Option Tmp) (v : Value) : putK l d v = l.put d v := by
  cases d with
  | none => rfl
  | some t => show Loc.mk (setK l.regs t v) l.dfs l.rc = _; rw [setK_eq]; rfl
theorem evK_eq (l : Loc) : evK l = l.ev := by
  funext x
  cases x with
  | tmp t =>
    show Option.rec (motive := fun _ => Value) _ _ (getK l.regs t) = _
    rw [getK_eq]
    simp only [Loc.ev]
    cases l.regs.get t <;> rfl
  | const v => simp only [Loc.ev]; show Bool.rec (motive := fun _ => Value) poison v (okConst v) = _; cases okConst v <;> rfl
  | global g => simp only [Loc.ev]; show Bool.rec (motive := fun _ => Value) poison _ (Nat.blt g 16) = _; cases Nat.blt g 16 <;> rfl
  | func f => rfl

/-! ### continuations -/
theorem bind2_normal (l : Loc) (h : Hp) (kn : Loc → Hp → Opt) (ka : Ex → Loc → Hp → Opt) : bind2 (some (.normal, l, h)) kn ka = kn l h := rfl
theorem bind2_id (x : Opt) : bind2 x (fun l h => some (.normal, l, h)) (fun e l h => some (e, l, h)) = x := by
  cases x with
  | none => rfl
  | some q => obtain ⟨e, l, h⟩ := q; cases e <;> rfl
theorem bind2_bind (x : Opt) (k1 : Loc → Hp → Opt) (a1 : Ex → Loc → Hp → Opt) (kn : Loc → Hp → Opt) (ka : Ex → Loc → Hp → Opt) (ha : ∀ e l h, e ≠ .normal → a1 e l h = ka e l h) :
    bind2 x (fun l h => bind2 (k1 l h) kn ka) a1 = bind2 (match x with
      | some (.normal, l, h) => k1 l h
      | r => r) kn ka := by
  cases x with
  | none => rfl
  | some q =>
    obtain ⟨e, l, h⟩ := q
    cases e with
    | normal => rfl
    | exit i => exact ha _ _ _ (by simp)
    | ret => exact ha _ _ _ (by simp)
    | pan v => exact ha _ _ _ (by simp)

/-! ### operations -/
theorem binK_eq (E : Env) (op : BinOp) (t : TypeId) (x y : Operand) (a b : Value) : binK E op t x y a b = binP E op t x y a b := by
  cases a <;> (try rfl)
  cases b <;> (try rfl)
  rename_i k m k' n
  cases op <;> (try rfl)
  all_goals (show Bool.rec (motive := fun _ => Option Value) none _ (keqb k k') = (bif keqb k k' then _ else none); cases keqb k k' <;> rfl)

theorem slow_eq (E : Env) (R : Rec) (cx : Cx) (o : Oper) (l : Loc) (h : Hp) (kn : Loc → Hp → Opt) (ka : Ex → Loc → Hp → Opt) : slowK o.op E R cx o.dst l h kn ka = bind2 (stepOp E R cx o l h) kn ka := rfl
theorem retK_eq (r : Option Value) (o : Oper) (l : Loc) (h : Hp) (E : Env) (R : Rec) (kn : Loc → Hp → Opt) (ka : Ex → Loc → Hp → Opt) : retK r o.dst l h kn = bind2 (ofOut o l (opVal E R (wrapR h r))) kn ka := by
  cases r with
  | none => rfl
  | some v => show kn (putK l o.dst v) h = kn (l.put o.dst v) h; rw [putK_eq]
theorem retHK_eq (r : Option (Hp × Value)) (o : Oper) (l : Loc) (E : Env) (R : Rec) (kn : Loc → Hp → Opt) (ka : Ex → Loc → Hp → Opt) : retHK r o.dst l kn = bind2 (ofOut o l (opVal E R (wrapV r))) kn ka := by
  cases r with
  | none => rfl
  | some p => obtain ⟨h, v⟩ := p; show kn (putK l o.dst v) h = kn (l.put o.dst v) h; rw [putK_eq]
theorem retUK_eq (r : Option Hp) (o : Oper) (l : Loc) (E : Env) (R : Rec) (kn : Loc → Hp → Opt) (ka : Ex → Loc → Hp → Opt) : retUK r o.dst l kn = bind2 (ofOut o l (opVal E R (wrapU r))) kn ka := by
  cases r with
  | none => rfl
  | some h => show kn (putK l o.dst (.tuple #[])) h = kn (l.put o.dst (.tuple #[])) h; rw [putK_eq]
theorem resK_eq (R : Rec) (g : FuncId) (args : List Value) (o : Oper) (l : Loc) (h : Hp) (E : Env) (kn : Loc → Hp → Opt) (ka : Ex → Loc → Hp → Opt) :
    resK (R.call g args none h) o.dst l kn ka = bind2 (ofOut o l (opVal E R (some (.call g args, h)))) kn ka := by
  simp only [opVal]
  cases R.call g args none h with
  | none => rfl
  | some q =>
    obtain ⟨x, rc, h2⟩ := q
    cases x with
    | ret v => show kn (putK l o.dst v) h2 = kn (l.put o.dst v) h2; rw [putK_eq]
    | pan v => rfl
/-- A step of an operation that answers at once. -/
theorem step_plain {E : Env} {R : Rec} {cx : Cx} {o : Oper} {l : Loc} {h : Hp} {x : Option (ANext × Hp)} (hx : aop E l.ev h o.op = x) (hn : ∀ h', x ≠ some (.recov, h')) (hd : ∀ d h', x ≠ some (.defer d, h')) : stepOp E R cx o l h = ofOut o l (opVal E R x) := by
  unfold stepOp
  rw [hx]
  split
  · exact absurd rfl (hn _)
  · exact absurd rfl (hd _ _)
  · rfl
theorem wrapR_ne {h : Hp} {r : Option Value} : (∀ h', wrapR h r ≠ some (.recov, h')) ∧ ∀ d h', wrapR h r ≠ some (.defer d, h') := by cases r <;> exact ⟨by intros; simp [wrapR], by intros; simp [wrapR]⟩
theorem wrapV_ne {r : Option (Hp × Value)} : (∀ h', wrapV r ≠ some (.recov, h')) ∧ ∀ d h', wrapV r ≠ some (.defer d, h') := by cases r <;> exact ⟨by intros; simp [wrapV], by intros; simp [wrapV]⟩
theorem wrapU_ne {r : Option Hp} : (∀ h', wrapU r ≠ some (.recov, h')) ∧ ∀ d h', wrapU r ≠ some (.defer d, h') := by cases r <;> exact ⟨by intros; simp [wrapU], by intros; simp [wrapU]⟩
theorem opK_eq (E : Env) (R : Rec) (cx : Cx) (o : Oper) (l : Loc) (h : Hp) (kn : Loc → Hp → Opt) (ka : Ex → Loc → Hp → Opt) : opK o.op E R cx o.dst l h kn ka = bind2 (stepOp E R cx o l h) kn ka := by
  have hr : ∀ r, aop E l.ev h o.op = wrapR h r → retK r o.dst l h kn = bind2 (stepOp E R cx o l h) kn ka := fun r hx => by rw [step_plain hx wrapR_ne.1 wrapR_ne.2]; exact retK_eq r o l h E R kn ka
  have hv : ∀ r, aop E l.ev h o.op = wrapV r → retHK r o.dst l kn = bind2 (stepOp E R cx o l h) kn ka := fun r hx => by rw [step_plain hx wrapV_ne.1 wrapV_ne.2]; exact retHK_eq r o l E R kn ka
  have hu : ∀ r, aop E l.ev h o.op = wrapU r → retUK r o.dst l kn = bind2 (stepOp E R cx o l h) kn ka := fun r hx => by rw [step_plain hx wrapU_ne.1 wrapU_ne.2]; exact retUK_eq r o l E R kn ka
  obtain ⟨dst, op, ty, pos, after, guard⟩ := o
  simp only [] at hr hv hu ⊢
  cases op
  case move x =>
    have := hr (some (l.ev x)) rfl
    rw [← this]
    show kn (putK l dst (evK l x)) h = kn (putK l dst (l.ev x)) h
    rw [evK_eq]
  case assign x =>
    have := hr (some (l.ev x)) rfl
    rw [← this]
    show kn (putK l dst (evK l x)) h = kn (putK l dst (l.ev x)) h
    rw [evK_eq]
  case load t a => rw [← hr _ rfl]; show retK (loadV E h t (evK l a)) dst l h kn = _; rw [evK_eq]
  case store t a v => rw [← hu _ rfl]; show retUK (storeV E h t (evK l a) (evK l v)) dst l kn = _; rw [evK_eq]
  case binOp b t x y u => rw [← hr (binP E b t x y (l.ev x) (l.ev y)) rfl]; show retK (binK E b t x y (evK l x) (evK l y)) dst l h kn = _; rw [evK_eq, binK_eq]
  case unOp b t x => rw [← hr (unP b (l.ev x)) rfl]; show retK (unP b (evK l x)) dst l h kn = _; rw [evK_eq]
  case fieldAddr t x i => rw [← hr (fieldAddrP E t (l.ev x) i) rfl]; show retK (fieldAddrP E t (evK l x) i) dst l h kn = _; rw [evK_eq]
  case field t x i => rw [← hr (fieldP E t (l.ev x) i) rfl]; show retK (fieldP E t (evK l x) i) dst l h kn = _; rw [evK_eq]
  case indexAddr t x i => rw [← hr (indexAddrP E t (l.ev x) (l.ev i)) rfl]; show retK (indexAddrP E t (evK l x) (evK l i)) dst l h kn = _; rw [evK_eq]
  case index t x i => rw [← hr (indexP E t (l.ev x) (l.ev i)) rfl]; show retK (indexP E t (evK l x) (evK l i)) dst l h kn = _; rw [evK_eq]
  case lookup t m k b => rw [← hr _ rfl]; show retK (lookupV E h t (evK l m) (evK l k) b) dst l h kn = _; rw [evK_eq]
  case mapUpdate t m k v => rw [← hu _ rfl]; show retUK (mapPut E h t (evK l m) (evK l k) (evK l v)) dst l kn = _; rw [evK_eq]
  case mapEntry t m k => rw [← hv _ rfl]; show retHK (mapEnt E h t (evK l m) (evK l k)) dst l kn = _; rw [evK_eq]
  case call c =>
    show callK c E R cx dst l h kn ka = _
    unfold callK
    cases hc : c.callee with
    | invoke r n => rfl
    | builtin b => rfl
    | value f =>
      show Option.rec (motive := fun _ => Opt) (slowK (.call c) E R cx dst l h kn ka) _ (asFn (evK l f)) = _
      rw [evK_eq]
      cases hf : asFn (l.ev f) with
      | none => rfl
      | some p =>
        obtain ⟨g, a, b⟩ := p
        have hv : l.ev f = .func (.func g) a b := by
          unfold asFn at hf
          split at hf
          · rename_i he; cases hf; exact he
          · cases hf
        have hx : aop E l.ev h (.call c) = some (.call g (a.toList ++ c.args.toList.map l.ev ++ b.toList), h) := by simp only [aop, hc, hv, target]
        rw [step_plain (o := ⟨dst, .call c, ty, pos, after, guard⟩) hx (by intro h' e; cases e) (by intro d h' e; cases e)]
        exact resK_eq R g _ ⟨dst, .call c, ty, pos, after, guard⟩ l h E kn ka
  all_goals rfl

/-! ### regions -/
theorem guardK_eq (ops : List Oper) (l : Loc) (o : Oper) : guardK ops l o = guardOk ops l.regs o := by
  unfold guardK
  cases hg : o.guard with
  | none => unfold guardOk; rw [hg]
  | some q => rfl
theorem opsK_eq (E : Env) (R : Rec) (cx : Cx) (ops : List Oper) (kn : Loc → Hp → Opt) (ka : Ex → Loc → Hp → Opt) : ∀ (os : List Oper) (l : Loc) (h : Hp), opsK E R cx ops kn ka os l h = bind2 (evOps E R cx ops os l h) kn ka
  | [], l, h => rfl
  | o :: os, l, h => by
    have ih := opsK_eq E R cx ops kn ka os
    show Option.rec (motive := fun _ => Opt) none (fun b => Bool.rec (opsK E R cx ops kn ka os (putK l o.dst (.tuple #[])) h) (opK o.op E R cx o.dst l h (opsK E R cx ops kn ka os) ka) b) (guardK ops l o) = _
    rw [guardK_eq]
    simp only [evOps]
    cases guardOk ops l.regs o with
    | none => rfl
    | some b =>
      cases b with
      | false => show opsK E R cx ops kn ka os (putK l o.dst (.tuple #[])) h = _; rw [ih, putK_eq]
      | true =>
        show opK o.op E R cx o.dst l h (opsK E R cx ops kn ka os) ka = _
        rw [opK_eq, show opsK E R cx ops kn ka os = fun l h => bind2 (evOps E R cx ops os l h) kn ka from funext fun l => funext fun h => ih l h]
        rw [bind2_bind _ _ _ _ _ (fun _ _ _ _ => rfl)]
        simp only []
        cases stepOp E R cx o l h with
        | none => rfl
        | some q => obtain ⟨e, l', h'⟩ := q; cases e <;> rfl

end
end Go.Ab

/- The evaluator for the kernel is the evaluator: drawn regions, code, calls. -/
namespace Go.Ab
noncomputable section

/-! ### regions that draw their order -/
theorem stepD_ext (E : Env) (R : Rec) (l : Loc) (qb : Bool) (o : Oper) (h : Hp) : stepD E R (l.evD (tmpsOf o.op.operands.toList)) qb o h = stepD E R l.ev qb o h := by
  unfold stepD
  rw [aop_ext (evD_own l o.op), aop_ext (evD_own l o.op)]
theorem fast_step {E : Env} {R : Rec} {cx : Cx} {o : Oper} {l : Loc} {h : Hp} (hf : fastOp o.op = true) {K : Value → Hp → Opt} :
    bind2 (stepOp E R cx o l h) (fun l' h' => none) (fun _ _ _ => none) = none ∧
    ∀ kn : Loc → Hp → Opt, bind2 (stepOp E R cx o l h) kn (fun _ _ _ => none) = (match stepD E R l.ev false o h with
      | none => none
      | some (v, h') => kn (l.put o.dst v) h') := by
  have key : ∀ x, aop E l.ev h o.op = x → ((∃ h0 r, x = wrapR h0 r) ∨ (∃ r, x = wrapV r) ∨ ∃ r, x = wrapU r) → ∀ kn : Loc → Hp → Opt, bind2 (stepOp E R cx o l h) kn (fun _ _ _ => none) = (match stepD E R l.ev false o h with
      | none => none
      | some (v, h') => kn (l.put o.dst v) h') := by
    intro x hx hs kn
    have hn : (∀ h', x ≠ some (.recov, h')) ∧ ∀ d h', x ≠ some (.defer d, h') := by
      rcases hs with ⟨h0, r, rfl⟩ | ⟨r, rfl⟩ | ⟨r, rfl⟩
      · exact wrapR_ne
      · exact wrapV_ne
      · exact wrapU_ne
    rw [step_plain hx hn.1 hn.2]
    simp only [stepD, cond_false, hx]
    rcases hs with ⟨h0, r, rfl⟩ | ⟨r, rfl⟩ | ⟨r, rfl⟩ <;> cases r <;> rfl
  have kind : (∃ h0 r, aop E l.ev h o.op = wrapR h0 r) ∨ (∃ r, aop E l.ev h o.op = wrapV r) ∨ ∃ r, aop E l.ev h o.op = wrapU r := by
    obtain ⟨dst, op, ty, pos, after, guard⟩ := o
    simp only [] at hf ⊢
    cases op <;> (try (cases hf; done))
    all_goals first
      | exact .inl ⟨h, some (l.ev _), rfl⟩
      | exact .inl ⟨h, _, rfl⟩
      | exact .inr (.inl ⟨_, rfl⟩)
      | exact .inr (.inr ⟨_, rfl⟩)
  refine ⟨?_, key _ rfl kind⟩
  rw [key _ rfl kind]
  cases stepD E R l.ev false o h <;> rfl
theorem hushK_eq (E : Env) (q i : Nat) (op : Op) : hushK E q i op = hush E q i op := by
  unfold hushK hush
  cases hq : Nat.beq q 0 with
  | true =>
    have : q = 0 := Nat.eq_of_beq_eq_true hq
    subst this
    simp
  | false => cases Nat.testBit q i <;> rfl
theorem elseDK_eq (E : Env) (R : Rec) (qb : Bool) (o : Oper) (l : Loc) (h : Hp) (k : Value → Hp → Opt) : elseDK E R qb o l h k = slowDK E R qb o l h k := by
  unfold elseDK
  cases hc : asCall o.op with
  | none => rfl
  | some c =>
    show callDK E R qb o c l h k = _
    have ho : o.op = .call c := by
      unfold asCall at hc
      split at hc
      · rename_i he; cases hc; exact he
      · cases hc
    unfold callDK
    cases hcc : c.callee with
    | invoke r n => rfl
    | builtin b => rfl
    | value f =>
      show Option.rec (motive := fun _ => Opt) (slowDK E R qb o l h k) _ (asFn (evK l f)) = _
      rw [evK_eq]
      cases hf : asFn (l.ev f) with
      | none => rfl
      | some p =>
        obtain ⟨g, a, b⟩ := p
        have hv : l.ev f = .func (.func g) a b := by
          unfold asFn at hf
          split at hf
          · rename_i he; cases hf; exact he
          · cases hf
        have hx : ∀ h, aop E l.ev h o.op = some (.call g (a.toList ++ c.args.toList.map l.ev ++ b.toList), h) := by intro h; rw [ho]; simp only [aop, hcc, hv, target]
        unfold slowDK stepD
        cases qb with
        | false =>
          simp only [cond_false, hx, opVal]
          show resDK (R.call g (a.toList ++ c.args.toList.map l.ev ++ b.toList) none h) k = _
          cases R.call g (a.toList ++ c.args.toList.map l.ev ++ b.toList) none h with
          | none => rfl
          | some q => obtain ⟨x, rc, h2⟩ := q; cases x <;> rfl
        | true =>
          simp only [cond_true, hx, opVal]
          show resDK (R.call g (a.toList ++ c.args.toList.map l.ev ++ b.toList) none { h with lo := h.n }) (quietK h k) = _
          cases R.call g (a.toList ++ c.args.toList.map l.ev ++ b.toList) none { h with lo := h.n } with
          | none => rfl
          | some q =>
            obtain ⟨x, rc, h2⟩ := q
            cases x with
            | pan v => rfl
            | ret v =>
              show quietK h k v h2 = _
              simp only [quietK]
              cases Nat.ble h.n h2.lo <;> rfl
theorem fast_notRun {op : Op} (h : fastOp op = true) : isRun op = false := by
  cases op <;> first | rfl | exact absurd h (by simp [fastOp])
theorem opsDK_eq (E : Env) (R : Rec) (cx : Cx) (ops : List Oper) (q : Nat) (K : Loc → Hp → List (Nat × Tch) → Opt) : ∀ (os : List Oper) (i : Nat) (l : Loc) (h : Hp) (tr : List (Nat × Tch)),
    opsDK E R cx ops q (fun _ l h tr => K l h tr) os i l h tr = (match evOpsD E R ops q os i l h tr with
      | none => none
      | some (l', h', tr') => K l' h' tr')
  | [], i, l, h, tr => rfl
  | o :: os, i, l, h, tr => by
    have ih := opsDK_eq E R cx ops q K os
    show Option.rec (motive := fun _ => Opt) none (fun b => Bool.rec (opsDK E R cx ops q (fun _ l h tr => K l h tr) os (i + 1) (putK l o.dst (.tuple #[])) h tr) (stepDK E R cx q o (opsDK E R cx ops q (fun _ l h tr => K l h tr) os) i l h tr) b) (guardK ops l o) = _
    rw [guardK_eq]
    simp only [evOpsD]
    cases guardOk ops l.regs o with
    | none => rfl
    | some b =>
      cases b with
      | false => show opsDK E R cx ops q (fun _ l h tr => K l h tr) os (i + 1) (putK l o.dst (.tuple #[])) h tr = _; rw [ih, putK_eq]
      | true =>
        show stepDK E R cx q o (opsDK E R cx ops q (fun _ l h tr => K l h tr) os) i l h tr = _
        simp only []
        have hslow : ∀ qb, hush E q i o.op = qb → slowDK E R qb o l h (fun v h' => opsDK E R cx ops q (fun _ l h tr => K l h tr) os (i + 1) (putK l o.dst v) h' (noted i tr (noteOf (l.evD (tmpsOf o.op.operands.toList)) qb o.op h h'))) =
            (match (match stepD E R (l.evD (tmpsOf o.op.operands.toList)) (hush E q i o.op) o h with
              | none => none
              | some (v, h') => evOpsD E R ops q os (i + 1) (l.put o.dst v) h' (noted i tr (noteOf (l.evD (tmpsOf o.op.operands.toList)) (hush E q i o.op) o.op h h'))) with
              | none => none
              | some (l', h', tr') => K l' h' tr') := by
          intro qb hq
          rw [hq, stepD_ext]
          unfold slowDK
          cases stepD E R l.ev qb o h with
          | none => rfl
          | some p => obtain ⟨v, h'⟩ := p; show opsDK E R cx ops q _ os (i + 1) (putK l o.dst v) h' _ = _; rw [ih, putK_eq]
        unfold stepDK
        cases hf : fastOp o.op with
        | false =>
          show elseDK E R (hushK E q i o.op) o l h _ = _
          rw [elseDK_eq, hushK_eq]
          exact hslow _ rfl
        | true =>
          have hn : ∀ b (h h' : Hp), noteOf (l.evD (tmpsOf o.op.operands.toList)) b o.op h h' = touchK l o.op := by
            intro b h h'
            have hna : isAlloc o.op = false := by cases ho : o.op <;> first | rfl | (rw [ho] at hf; simp [fastOp] at hf)
            unfold noteOf touchK touchA
            rw [fast_notRun hf, hna]; rfl
          simp only [hn] at hslow ⊢
          cases hq : hushK E q i o.op with
          | true =>
            rw [hushK_eq] at hq
            exact hslow true hq
          | false =>
            rw [hushK_eq] at hq
            show opK o.op E R cx o.dst l h _ _ = _
            rw [opK_eq, (fast_step (R := R) hf (K := fun _ _ => none)).2, stepD_ext, hq]
            cases stepD E R l.ev false o h with
            | none => rfl
            | some p => obtain ⟨v, h'⟩ := p; simp only []; rw [ih]
/-! ### code -/
theorem codeK_eq (E : Env) (R : Rec) (M : CodeM) (hM : ∀ cx c l h kn ka, M cx c l h kn ka = bind2 (R.code cx c l h) kn ka) (cx : Cx) : ∀ (c : Code) (l : Loc) (h : Hp) (kn : Loc → Hp → Opt) (ka : Ex → Loc → Hp → Opt),
    codeK E R M cx c l h kn ka = bind2 (codeStep E R cx c l h) kn ka := by
  intro c
  induction c with
  | skip => intro l h kn ka; rfl
  | label n => intro l h kn ka; rfl
  | region id ops draw =>
    intro l h kn ka
    cases draw with
    | false => exact opsK_eq E R cx ops.toList kn ka ops.toList l h
    | true =>
      show drawK E R cx ops.toList l h kn = _
      unfold drawK drawKo
      simp only [codeStep, cond_true]
      generalize hoist ops.toList = os
      cases plan E os with
      | none => rfl
      | some p =>
        obtain ⟨q, ps⟩ := p
        show opsDK E R cx os q (fun _ l h tr => Bool.rec none (kn l h) (pairsOk tr ps)) os 0 l h [] = _
        rw [opsDK_eq E R cx os q (fun l h tr => Bool.rec none (kn l h) (pairsOk tr ps))]
        simp only []
        cases evOpsD E R os q os 0 l h [] with
        | none => rfl
        | some x =>
          obtain ⟨a, b, c⟩ := x
          simp only []
          cases pairsOk c ps <;> rfl
  | seq a b iha ihb =>
    intro l h kn ka
    show codeK E R M cx a l h (fun l h => codeK E R M cx b l h kn ka) ka = _
    rw [iha, show (fun l h => codeK E R M cx b l h kn ka) = fun l h => bind2 (codeStep E R cx b l h) kn ka from funext fun l => funext fun h => ihb l h kn ka]
    rw [bind2_bind _ _ _ _ _ (fun _ _ _ _ => rfl)]
    simp only [codeStep]
    cases codeStep E R cx a l h with
    | none => rfl
    | some q => obtain ⟨e, l', h'⟩ := q; cases e <;> rfl
  | cond c a b iha ihb =>
    intro l h kn ka
    show Option.rec (motive := fun _ => Opt) none (fun t => Bool.rec (codeK E R M cx b l h kn ka) (codeK E R M cx a l h kn ka) t) (asBool (evK l c)) = _
    rw [evK_eq, iha, ihb]
    simp only [codeStep]
    cases l.ev c <;> (try rfl)
    rename_i t
    cases t <;> rfl
  | block id b ih =>
    intro l h kn ka
    show codeK E R M cx b l h kn (fun e l h => blkK e id kn ka l h) = _
    rw [ih]
    simp only [codeStep]
    cases codeStep E R cx b l h with
    | none => rfl
    | some q =>
      obtain ⟨e, l', h'⟩ := q
      cases e with
      | normal => rfl
      | ret => rfl
      | pan v => rfl
      | exit i =>
        show Bool.rec (motive := fun _ => Opt) (ka (.exit i) l' h') (kn l' h') (Nat.beq i id) = _
        simp only []
        cases Nat.beq i id <;> rfl
  | loop b ih =>
    intro l h kn ka
    show codeK E R M cx b l h (fun l h => M cx (.loop b) l h kn ka) ka = _
    rw [ih, show (fun l h => M cx (.loop b) l h kn ka) = fun l h => bind2 (R.code cx (.loop b) l h) kn ka from funext fun l => funext fun h => hM cx (.loop b) l h kn ka]
    rw [bind2_bind _ _ _ _ _ (fun _ _ _ _ => rfl)]
    simp only [codeStep]
    cases codeStep E R cx b l h with
    | none => rfl
    | some q => obtain ⟨e, l', h'⟩ := q; cases e <;> rfl
  | rangeFunc f ps asg body _ _ =>
    intro l h kn ka
    show bind2 (rangeStep R cx (evK l f) ps asg body l h) kn ka = _
    rw [evK_eq]; rfl
  | exit id => intro l h kn ka; rfl
  | scope b ih => intro l h kn ka; exact ih l h kn ka
  | goto n => intro l h kn ka; rfl
  | ret => intro l h kn ka; rfl
  | refuse m => intro l h kn ka; rfl

/-! ### calls -/
theorem doneK_eq (E : Env) (R : Rec) (fn : Func) (l : Loc) (h : Hp) : doneK E R fn l h = slowDone E R fn l h := by
  unfold doneK slowDone
  cases hd : l.dfs with
  | cons d ds => rfl
  | nil =>
    simp only [unwindA]
    cases readRes E l.regs h fn.results.toList <;> rfl
theorem callBK_eq (E : Env) (R : Rec) (f : FuncId) (args : List Value) (rc : Option (Value × Bool)) (h : Hp) : callBK E R f args rc h = callBody E R f args rc h := by
  unfold callBK callBody
  cases E.fn f with
  | none => rfl
  | some fn =>
    show Option.rec (motive := fun _ => ResK) none (fun body => callFn E R f args rc h fn body) fn.body = _
    simp only []
    cases fn.body with
    | none => rfl
    | some body =>
      show callFn E R f args rc h fn body = _
      unfold callFn
      simp only []
      cases Nat.ble args.length fn.ntmps with
      | false => rfl
      | true =>
        show leaveK E R fn _ = _
        simp only [cond_true]
        cases R.code ⟨f, fn.ntmps, none⟩ body ⟨(Tr.blank (.tuple #[]) fn.ntmps fn.ntmps).setAll 0 args, [], rc⟩ h with
        | none => rfl
        | some q =>
          obtain ⟨e, l, h'⟩ := q
          cases e with
          | exit i => rfl
          | pan v => rfl
          | normal => exact doneK_eq E R fn l h'
          | ret => exact doneK_eq E R fn l h'

theorem callSK_eq (E : Env) (R : Rec) (f : FuncId) (args : List Value) (rc : Option (Value × Bool)) (h : Hp) : callSK E R f args rc h = callStep E R f args rc h := by
  unfold callSK callStep
  cases E.orc f args with
  | none => exact callBK_eq E R f args rc h
  | some v => cases rc <;> rfl

theorem runK_rel (E : Env) : ∀ n, (runK E n).rec' = run E n ∧ ∀ cx c l h kn ka, (runK E n).code cx c l h kn ka = bind2 ((run E n).code cx c l h) kn ka
  | 0 => ⟨rfl, fun _ _ _ _ _ _ => rfl⟩
  | n + 1 => by
    obtain ⟨h1, h2⟩ := runK_rel E n
    have hc : ∀ cx c l h kn ka, (runK E (n + 1)).code cx c l h kn ka = bind2 ((run E (n + 1)).code cx c l h) kn ka := by
      intro cx c l h kn ka
      show codeK E (runK E n).rec' (runK E n).code cx c l h kn ka = bind2 (codeStep E (run E n) cx c l h) kn ka
      rw [h1]
      exact codeK_eq E (run E n) (runK E n).code h2 cx c l h kn ka
    refine ⟨?_, hc⟩
    show Rec.mk (fun f args rc h => callSK E (runK E n).rec' f args rc h) (fun cx c l h => (runK E (n + 1)).code cx c l h (fun l h => some (.normal, l, h)) (fun e l h => some (e, l, h))) = next E (run E n)
    rw [h1]
    unfold next
    congr 1
    · funext f args rc h; exact callSK_eq E (run E n) f args rc h
    · funext cx c l h; rw [hc, bind2_id]; rfl
theorem runK_call (E : Env) (n : Nat) (f : FuncId) (args : List Value) (rc : Option (Value × Bool)) (h : Hp) : (runK E n).call f args rc h = (run E n).call f args rc h := by
  rw [← (runK_rel E n).1]; rfl

theorem envK_eq (fns : Tr Func) (tys : Tr TypeInfo) (eqs : List Nat) : envK fns tys eqs = envOf fns tys eqs := rfl

theorem hpK_eq : hpK = hp0 := rfl
end
end Go.Ab

/- Equations of operations, one by one, for rewriting. -/
namespace Go.Ab
section
variable {E : Env} {ρ : Operand → Value} {h : Hp}
theorem o_move {x : Operand} : aop E ρ h (.move x) = some (.val (ρ x), h) := rfl
theorem o_assign {x : Operand} : aop E ρ h (.assign x) = some (.val (ρ x), h) := rfl
theorem o_pick {c a b : Operand} : aop E ρ h (.pick c a b) = wrapR h (match ρ c with | .bool t => some (bif t then ρ a else ρ b) | _ => none) := rfl
theorem o_load {t : TypeId} {a : Operand} : aop E ρ h (.load t a) = wrapR h (loadV E h t (ρ a)) := rfl
theorem o_store {t : TypeId} {a x : Operand} : aop E ρ h (.store t a x) = wrapU (storeV E h t (ρ a) (ρ x)) := rfl
theorem o_binOp {op : BinOp} {t u : TypeId} {x y : Operand} : aop E ρ h (.binOp op t x y u) = wrapR h (binP E op t x y (ρ x) (ρ y)) := rfl
theorem o_unOp {op : UnOp} {t : TypeId} {x : Operand} : aop E ρ h (.unOp op t x) = wrapR h (unP op (ρ x)) := rfl
theorem o_nilCheck {x : Operand} : aop E ρ h (.nilCheck x) = wrapR h (match ρ x with | .pointer (some a) => some (.pointer (some a)) | .func (.func f) a b => some (.func (.func f) a b) | _ => none) := rfl
theorem o_makeInterface {t : TypeId} {x : Operand} : aop E ρ h (.makeInterface t x) = wrapR h (match E.und t with | none => none | some (.interface _) => none | some _ => some (.iface t (ρ x))) := rfl
theorem o_makeFunc {f : FuncId} {a b : Array Operand} : aop E ρ h (.makeFunc (.func f) a b) = some (.val (.func (.func f) (a.map ρ) (b.map ρ)), h) := rfl
theorem o_slice {t : TypeId} {x : Operand} {l u m : Option Operand} : aop E ρ h (.slice t x l u m) = wrapR h (sliceP E t (ρ x) (l.map ρ) (u.map ρ) (m.map ρ)) := rfl
theorem o_fieldAddr {s : TypeId} {x : Operand} {i : Nat} : aop E ρ h (.fieldAddr s x i) = wrapR h (fieldAddrP E s (ρ x) i) := rfl
theorem o_field {s : TypeId} {x : Operand} {i : Nat} : aop E ρ h (.field s x i) = wrapR h (fieldP E s (ρ x) i) := rfl
theorem o_indexAddr {t : TypeId} {x i : Operand} : aop E ρ h (.indexAddr t x i) = wrapR h (indexAddrP E t (ρ x) (ρ i)) := rfl
theorem o_index {t : TypeId} {x i : Operand} : aop E ρ h (.index t x i) = wrapR h (indexP E t (ρ x) (ρ i)) := rfl
theorem o_extract {t : Operand} {i : Nat} : aop E ρ h (.extract t i) = wrapR h (match ρ t with | .tuple vs => vs.toList[i]? | _ => none) := rfl
theorem o_build {t : TypeId} {ps : Array (Nat × Operand)} : aop E ρ h (.build t ps) = wrapR h (buildP E t (ps.toList.map fun p => (p.1, ρ p.2))) := rfl
theorem o_buildSlice {t : TypeId} {n : Nat} {ps : Array (Nat × Operand)} : aop E ρ h (.buildSlice t n ps) = wrapV (buildSliceV E h t n (ps.toList.map fun p => (p.1, ρ p.2))) := rfl
theorem o_makeSlice {t : TypeId} {l c : Operand} : aop E ρ h (.makeSlice t l c) = wrapV (makeSliceV E h t (ρ l) (ρ c)) := rfl
theorem o_makeMap {t : TypeId} : aop E ρ h (.makeMap t none) = some (.val (.map (some h.n)), h.new (.map [] 0)) := rfl
theorem o_typeAssert {x : Operand} {s t : TypeId} {ok : Bool} : aop E ρ h (.typeAssert x s t ok) = wrapR h (assertP E (ρ x) t ok) := rfl
theorem o_convert {s t : TypeId} {x : Operand} : aop E ρ h (.convert s t x) = wrapV (convV E h s t (ρ x)) := rfl
theorem o_lookup {t : TypeId} {m k : Operand} {ok : Bool} : aop E ρ h (.lookup t m k ok) = wrapR h (lookupV E h t (ρ m) (ρ k) ok) := rfl
theorem o_mapUpdate {t : TypeId} {m k v : Operand} : aop E ρ h (.mapUpdate t m k v) = wrapU (mapPut E h t (ρ m) (ρ k) (ρ v)) := rfl
theorem o_mapEntry {t : TypeId} {m k : Operand} : aop E ρ h (.mapEntry t m k) = wrapV (mapEnt E h t (ρ m) (ρ k)) := rfl
theorem o_entryStore {t : TypeId} {m s v : Operand} : aop E ρ h (.entryStore t m s v) = wrapU (entStore h (ρ m) (ρ s) (ρ v)) := rfl
theorem o_alloc {t : TypeId} : aop E ρ h (.alloc t) = match E.zero t with | none => none | some z => some (.val (ptrTo h.n), h.new (.cells (Tr.ofList z) z.length t 1)) := by
  simp only [aop]; cases E.zero t <;> rfl
theorem o_box {t : TypeId} {x : Operand} : aop E ρ h (.box t x) = match ρ x with | .chan _ => none | v => some (.val (ptrTo h.n), h.new (.cells (Tr.ofList (vcells v)) (vcells v).length t 1)) := by
  simp only [aop]; cases ρ x <;> rfl
theorem o_callv {f : Operand} {as : Array Operand} {ts : Array TypeId} : aop E ρ h (.call ⟨.value f, as, ts⟩) = match target (ρ f) (as.toList.map ρ) with | none => none | some x => some (x, h) := rfl
theorem o_len {x : Operand} {t : TypeId} {v : Value} (hv : lenP E t (ρ x) = some v) : aop E ρ h (.call ⟨.builtin .len, #[x], #[t]⟩) = some (.val v, h) := by
  simp only [aop, pop, hv]
theorem o_max {x y : Operand} {ts : Array TypeId} : aop E ρ h (.call ⟨.builtin .max, #[x, y], ts⟩) = wrapR h (minmax true (ρ x) [ρ y]) := rfl
theorem o_min {x y : Operand} {ts : Array TypeId} : aop E ρ h (.call ⟨.builtin .min, #[x, y], ts⟩) = wrapR h (minmax false (ρ x) [ρ y]) := rfl
theorem o_append {s x : Operand} {ts : Array TypeId} : aop E ρ h (.call ⟨.builtin .append, #[s, x], ts⟩) = wrapV (appendV E h ts.toList (ρ s) (ρ x)) := rfl
theorem o_copy {s x : Operand} {ts : Array TypeId} : aop E ρ h (.call ⟨.builtin .copy, #[s, x], ts⟩) = wrapV (copyV E h ts.toList (ρ s) (ρ x)) := rfl
end
theorem wrapR_some {h : Hp} {v : Value} : wrapR h (some v) = some (.val v, h) := rfl
theorem wrapV_some {h : Hp} {v : Value} : wrapV (some (h, v)) = some (.val v, h) := rfl
theorem wrapU_some {h : Hp} : wrapU (some h) = some (.skip, h) := rfl
theorem step_call {E : Env} {cx : Cx} {o : Oper} {l : Loc} {K : Ex → Loc → Hp → Prop} {h : Hp} {f : FuncId} {args : List Value} : StepR E cx o l K (some (.call f args, h)) ↔ CallQ E f args none h fun x _ h'' => match x with
    | .ret v => K .normal (l.put o.dst v) h''
    | .pan v => K (.pan v) l h'' := Iff.rfl
theorem guard_none {a : List Oper} {rg : Tr Value} {d : Option Tmp} {op : Op} {t : TypeId} {p : String} {af : Array Edge} {b : Bool} : (guardOk a rg ⟨d, op, t, p, af, none⟩ = some b) = (true = b) := by
  simp [guardOk]
theorem keqb_refl (k : IntKind) : keqb k k = true := by rw [keqb_eq]; simp
theorem b_add {E : Env} {t : TypeId} {x y : Operand} {k : IntKind} {m n : Int} : binP E .add t x y (.int k m) (.int k n) = some (.int k (wrapI k (m + n))) := by simp [binP, keqb_refl, arithI]
theorem b_sub {E : Env} {t : TypeId} {x y : Operand} {k : IntKind} {m n : Int} : binP E .sub t x y (.int k m) (.int k n) = some (.int k (wrapI k (m - n))) := by simp [binP, keqb_refl, arithI]
theorem b_mul {E : Env} {t : TypeId} {x y : Operand} {k : IntKind} {m n : Int} : binP E .mul t x y (.int k m) (.int k n) = some (.int k (wrapI k (m * n))) := by simp [binP, keqb_refl, arithI]
theorem ibeq_dec (m n : Int) : ibeq m n = decide (m = n) := by rw [ibeq_eq]; by_cases h : m = n <;> simp [h]
theorem b_eql {E : Env} {t : TypeId} {x y : Operand} {k : IntKind} {m n : Int} : binP E .eql t x y (.int k m) (.int k n) = some (.bool (decide (m = n))) := by simp [binP, keqb_refl, arithI, ibeq_dec]
theorem b_neq {E : Env} {t : TypeId} {x y : Operand} {k : IntKind} {m n : Int} : binP E .neq t x y (.int k m) (.int k n) = some (.bool (!decide (m = n))) := by simp [binP, keqb_refl, arithI, ibeq_dec]
theorem b_lss {E : Env} {t : TypeId} {x y : Operand} {k : IntKind} {m n : Int} : binP E .lss t x y (.int k m) (.int k n) = some (.bool (decide (m < n))) := by simp [binP, keqb_refl, arithI, iblt_eq]
theorem b_leq {E : Env} {t : TypeId} {x y : Operand} {k : IntKind} {m n : Int} : binP E .leq t x y (.int k m) (.int k n) = some (.bool (decide (m ≤ n))) := by
  simp only [binP, keqb_refl, arithI, iblt_eq, cond_true]
  by_cases hx : m ≤ n
  · rw [decide_eq_true hx, decide_eq_false (by omega)]; rfl
  · rw [decide_eq_false hx, decide_eq_true (by omega)]; rfl
theorem b_gtr {E : Env} {t : TypeId} {x y : Operand} {k : IntKind} {m n : Int} : binP E .gtr t x y (.int k m) (.int k n) = some (.bool (decide (n < m))) := by simp [binP, keqb_refl, arithI, iblt_eq]
theorem b_geq {E : Env} {t : TypeId} {x y : Operand} {k : IntKind} {m n : Int} : binP E .geq t x y (.int k m) (.int k n) = some (.bool (decide (n ≤ m))) := by
  simp only [binP, keqb_refl, arithI, iblt_eq, cond_true]
  by_cases hx : n ≤ m
  · rw [decide_eq_true hx, decide_eq_false (by omega)]; rfl
  · rw [decide_eq_false hx, decide_eq_true (by omega)]; rfl
theorem b_quo {E : Env} {t : TypeId} {x y : Operand} {k : IntKind} {m n : Int} (h : n ≠ 0) : binP E .quo t x y (.int k m) (.int k n) = some (.int k (wrapI k (m.tdiv n))) := by
  simp [binP, keqb_refl, arithI, ibeq_dec, h]
theorem b_rem {E : Env} {t : TypeId} {x y : Operand} {k : IntKind} {m n : Int} (h : n ≠ 0) : binP E .rem t x y (.int k m) (.int k n) = some (.int k (m.tmod n)) := by
  simp [binP, keqb_refl, arithI, ibeq_dec, h]
theorem mm_max {k k' : IntKind} {a b : Int} : minmax true (.int k a) [.int k' b] = some (.int k (max a b)) := by
  simp only [minmax, iblt_eq, cond_true]
  by_cases h : a < b
  · rw [decide_eq_true h]; simp only [cond_true]; rw [Int.max_eq_right (by omega)]
  · rw [decide_eq_false h]; simp only [cond_false]; rw [Int.max_eq_left (by omega)]
theorem mm_min {k k' : IntKind} {a b : Int} : minmax false (.int k a) [.int k' b] = some (.int k (min a b)) := by
  simp only [minmax, iblt_eq, cond_false]
  by_cases h : b < a
  · rw [decide_eq_true h]; simp only [cond_true]; rw [Int.min_eq_right (by omega)]
  · rw [decide_eq_false h]; simp only [cond_false]; rw [Int.min_eq_left (by omega)]
theorem loadV_one {E : Env} {h : Hp} {t : TypeId} {b o : Nat} {s : Option Nat} {v : Value} (ht : E.agg t = some false) (hl : h.load b o 1 = some [v]) : loadV E h t (.pointer (some ⟨b, o, s⟩)) = some v := by
  simp [loadV, ht, hl]
theorem loadV_box {E : Env} {h : Hp} {t : TypeId} {b : Nat} {v : Value} (ht : E.agg t = some false) (hl : h.load b 0 1 = some [v]) : loadV E h t (ptrTo b) = some v := loadV_one ht hl
theorem wrap64 {n : Int} (h1 : -9223372036854775808 ≤ n) (h2 : n < 9223372036854775808) : wrapI .i64 n = n := by
  unfold wrapI
  cases n with
  | ofNat m =>
    have : Nat.blt m (hf .i64) = true := by rw [Nat.blt_eq]; simp only [hf]; have h2' : (m : Int) < 9223372036854775808 := h2; omega
    simp only [this, cond_true]
  | negSucc m =>
    have : Nat.blt m (hf .i64) = true := by rw [Nat.blt_eq]; simp only [hf]; have : -9223372036854775808 ≤ Int.negSucc m := h1; omega
    simp only [sgn, this, cond_true]
theorem true_eq_ite {P Q : Prop} : (if true = true then P else Q) = P := by simp
theorem exists_true {P : Bool → Prop} : (∃ b, true = b ∧ P b) ↔ P true := ⟨fun ⟨b, h1, h2⟩ => by rw [h1]; exact h2, fun h => ⟨true, rfl, h⟩⟩
theorem exists_some {α : Type} {a : α} {P : α → Prop} : (∃ b, some a = some b ∧ P b) ↔ P a := ⟨fun ⟨b, h1, h2⟩ => by cases h1; exact h2, fun h => ⟨a, rfl, h⟩⟩
theorem exists_bool {a : Bool} {P : Bool → Prop} : (∃ t, Value.bool a = Value.bool t ∧ P t) ↔ P a := ⟨fun ⟨b, h1, h2⟩ => by cases h1; exact h2, fun h => ⟨a, rfl, h⟩⟩
end Go.Ab
namespace Go.Ab
theorem argR_zero {v : Value} {l : List Value} : argR (v :: l) 0 = v := rfl
theorem argR_succ {v : Value} {l : List Value} {i : Nat} : argR (v :: l) (i + 1) = argR l i := rfl
end Go.Ab
namespace Go.Ab
section
variable {l : Loc}
theorem c_int {k : IntKind} {n : Int} : l.ev (.const (.int k n)) = .int k n := rfl
theorem c_bool {b : Bool} : l.ev (.const (.bool b)) = .bool b := rfl
theorem c_string {s : ByteArray} : l.ev (.const (.string s)) = .string s := rfl
theorem c_nilp : l.ev (.const (.pointer none)) = .pointer none := rfl
theorem c_nils : l.ev (.const (.slice none 0 0)) = .slice none 0 0 := rfl
theorem c_nilm : l.ev (.const (.map none)) = .map none := rfl
theorem c_nilf : l.ev (.const .nilFunc) = .nilFunc := rfl
theorem c_nili : l.ev (.const .nilIface) = .nilIface := rfl
end
end Go.Ab
namespace Go.Ab
def one1 : Option (List Value) → Option Value
  | some [v] => some v
  | _ => none
theorem one1_some {v : Value} : one1 (some [v]) = some v := rfl
theorem loadV_flat {E : Env} {h : Hp} {t : TypeId} {b o : Nat} {s : Option Nat} (ht : E.agg t = some false) : loadV E h t (.pointer (some ⟨b, o, s⟩)) = one1 (h.load b o 1) := by
  simp only [loadV, ht]
  unfold one1
  rfl
theorem loadV_ptr {E : Env} {h : Hp} {t : TypeId} {b : Nat} (ht : E.agg t = some false) : loadV E h t (ptrTo b) = one1 (h.load b 0 1) := loadV_flat ht
end Go.Ab
namespace Go.Ab
/-! ### guards, new blocks, function values -/
def gv (want : Bool) : Option Value → Option Bool
  | some (.bool b) => some (bif b then want else !want)
  | some (.tuple _) => some false
  | _ => none
noncomputable def gj (want : Bool) (rg : Tr Value) : Option Oper → Option Bool
  | none => some false
  | some o => match o.dst with
    | none => some false
    | some d => gv want (rg.get d)
theorem guard_some {a : List Oper} {rg : Tr Value} {d : Option Tmp} {op : Op} {t : TypeId} {p : String} {af : Array Edge} {j : Nat} {want : Bool} : guardOk a rg ⟨d, op, t, p, af, some (j, want)⟩ = gj want rg (a[j]?) := by
  simp only [guardOk, gj]
  cases a[j]? with
  | none => rfl
  | some o =>
    simp only []
    cases o.dst with
    | none => rfl
    | some d =>
      simp only [gv]
      cases rg.get d with
      | none => rfl
      | some v => cases v <;> rfl
theorem gj_some {want : Bool} {rg : Tr Value} {d : Tmp} {op : Op} {t : TypeId} {p : String} {af : Array Edge} {g : Option (Nat × Bool)} : gj want rg (some ⟨some d, op, t, p, af, g⟩) = gv want (rg.get d) := rfl
theorem gv_true {b : Bool} : gv true (some (.bool b)) = some b := by cases b <;> rfl
theorem gv_false {b : Bool} : gv false (some (.bool b)) = some (!b) := by cases b <;> rfl
theorem gv_tuple {want : Bool} {x : Array Value} : gv want (some (.tuple x)) = some false := rfl
theorem u_not {b : Bool} : unP .not (.bool b) = some (.bool (!b)) := rfl
theorem stepN_call {E : Env} {K : Value → Hp → Prop} {f : FuncId} {args : List Value} {h : Hp} : StepN E K (some (.call f args, h)) ↔ CallQ E f args none h fun x _ h'' => match x with
    | .ret v => K v h''
    | .pan _ => False := Iff.rfl
theorem target_fn {g : FuncId} {a b : Array Value} {args : List Value} : target (.func (.func g) a b) args = some (.call g (a.toList ++ args ++ b.toList)) := rfl
theorem n_new {h : Hp} {x : Blk} : (h.new x).n = h.n + 1 := rfl
theorem callq_ret {E : Env} {f : FuncId} {args : List Value} {h : Hp} {P : Out → Option (Value × Bool) → Hp → Prop} {Q : Value → Hp → Prop} (hr : Ret E f args h Q) (hk : ∀ v h', Q v h' → P (.ret v) none h') : CallQ E f args none h P := by
  obtain ⟨v, h', a, b⟩ := hr
  exact ⟨_, _, _, a, hk v h' b⟩
/-- A call that leaves the heap but for new blocks, and answers v. -/
def Pure (E : Env) (f : FuncId) (args : List Value) (h : Hp) (v : Value) : Prop := Ret E f args h fun v' h' => v' = v ∧ Gr h h'
theorem callq_pure {E : Env} {f : FuncId} {args : List Value} {h : Hp} {v : Value} {P : Out → Option (Value × Bool) → Hp → Prop} (hr : Pure E f args h v) (hk : ∀ h', Gr h h' → P (.ret v) none h') : CallQ E f args none h P :=
  callq_ret hr fun v' h' ⟨e, g⟩ => by rw [e]; exact hk h' g
end Go.Ab
namespace Go.Ab
/-! ### loops, lengths, places -/
theorem run_unroll {E : Env} {cx : Cx} {Q : Post} {k : List Fr} {l : Loc} {h : Hp} {b : Code} : Run E (lim E) cx Q (.code (.loop b) :: k) .normal l h ↔ Run E (lim E) cx Q (.code b :: .code (.loop b) :: k) .normal l h := by
  rw [← run_seq]
  simp only [Run]
  have : codeStep E (lim E) cx (.loop b) l h = codeStep E (lim E) cx (.seq b (.loop b)) l h := by
    simp only [codeStep]
    cases codeStep E (lim E) cx b l h with
    | none => rfl
    | some q =>
      obtain ⟨e, l', h'⟩ := q
      cases e with
      | normal => show (lim E).code cx (.loop b) l' h' = _; rw [code_eq]; rfl
      | exit i => rfl
      | ret => rfl
      | pan v => rfl
  rw [this]
def lenK (r : Option (ANext × Hp)) (h : Hp) : Option Value → Option (ANext × Hp)
  | some v => some (.val v, h)
  | none => r
theorem lenK_some {r : Option (ANext × Hp)} {h : Hp} {v : Value} : lenK r h (some v) = some (.val v, h) := rfl
theorem o_lenK {E : Env} {ρ : Operand → Value} {h : Hp} {x : Operand} {t : TypeId} : aop E ρ h (.call ⟨.builtin .len, #[x], #[t]⟩) = lenK (match ρ x with
          | .map (some r) => match h.get r with
            | some (.map es _) => match E.und t with
                | some (.map _ _) => some (.val (.int .i64 (.ofNat es.length)), h)
                | _ => none
            | _ => none
          | _ => none) h (lenP E t (ρ x)) := by
  simp only [aop, pop]
  cases lenP E t (ρ x) with
  | some v => rfl
  | none =>
    simp only [lenK]
    cases ρ x <;> rfl
theorem natOf_nn {i : Int} (h : 0 ≤ i) : natOf i = some i.toNat := by
  cases i with
  | ofNat n => rfl
  | negSucc n => exact absurd h (by simp)
theorem idxP_in {k : IntKind} {i : Int} {n : Nat} (h0 : 0 ≤ i) (h1 : i < n) : idxP (.int k i) n = some i.toNat := by
  simp only [idxP, natOf_nn h0]
  have : Nat.blt i.toNat n = true := by rw [Nat.blt_eq]; omega
  rw [this]; rfl
theorem idxP_nat {k : IntKind} {i n : Nat} (h1 : i < n) : idxP (.int k (i : Int)) n = some i := by
  rw [idxP_in (Int.natCast_nonneg i) (by omega)]; simp
theorem ia_slice {E : Env} {t e : TypeId} {k : Nat} {a : Addr} {n c : Nat} {v : Value} (hu : E.und t = some (.slice e)) (hs : E.sz e = some k) : indexAddrP E t (.slice (some a) n c) v = (idxP v n).map fun i => .pointer (some (addrAdd a (i * k))) := by
  simp only [indexAddrP, hu, hs]
  cases idxP v n <;> rfl
theorem ia_array {E : Env} {t e : TypeId} {m k : Nat} {a : Addr} {v : Value} (hu : E.und t = some (.array m e)) (hs : E.sz e = some k) : indexAddrP E t (.pointer (some a)) v = (idxP v m).map fun i => .pointer (some (addrAdd a (i * k))) := by
  simp only [indexAddrP, hu, hs]
  cases idxP v m <;> rfl
theorem bs_ints {E : Env} {h : Hp} {t e : TypeId} {z : Value} {k0 k1 : IntKind} {a b : Int} (hu : E.und t = some (.slice e)) (hs : E.sz e = some 1) (hz : E.zero e = some [z]) :
    buildSliceV E h t 2 [(0, .int k0 a), (1, .int k1 b)] = some (h.new (.cells (Tr.ofList [.int k0 a, .int k1 b]) [Value.int k0 a, .int k1 b].length e 1), .slice (some ⟨h.n, 0, none⟩) 2 2) := by
  unfold buildSliceV
  simp only [hu, hs, hz]
  rfl
theorem load_new {h : Hp} (ok : h.t.Sized h.n) {l : List Value} {e md o n : Nat} (hn : o + n ≤ l.length) : (h.new (.cells (Tr.ofList l) l.length e md)).load h.n o n = some ((l.drop o).take n) := (row_new ok l e md).load hn
theorem load_old {h : Hp} (ok : h.t.Sized h.n) {x : Blk} {b o n : Nat} (hb : b < h.n) : (h.new x).load b o n = h.load b o n := by
  unfold Hp.load
  rw [h.get_new x ok, if_neg (by omega)]
end Go.Ab
namespace Go.Ab
theorem step_pure {E : Env} {cx : Cx} {o : Oper} {l : Loc} {K : Ex → Loc → Hp → Prop} {h : Hp} {f : FuncId} {args : List Value} {v : Value} (hr : Pure E f args h v) (hk : ∀ h', Gr h h' → K .normal (l.put o.dst v) h') : StepR E cx o l K (some (.call f args, h)) :=
  step_ret hr fun v' h' ⟨e, g⟩ => by rw [e]; exact hk h' g
theorem stepN_pure {E : Env} {K : Value → Hp → Prop} {f : FuncId} {args : List Value} {h : Hp} {v : Value} (hr : Pure E f args h v) (hk : ∀ h', Gr h h' → K v h') : StepN E K (some (.call f args, h)) :=
  stepN_ret hr fun v' h' ⟨e, g⟩ => by rw [e]; exact hk h' g
theorem Pure.of {E : Env} {f : FuncId} {args : List Value} {h : Hp} {v : Value} (hr : Ret E f args h fun v' h' => v' = v ∧ Gr h h') : Pure E f args h v := hr
end Go.Ab
namespace Go.Ab
/-! ### steps whose branches are not looked into before their tests are known -/
section
variable (E : Env) (cx : Cx) (Q : Post)
def GStep (a : List Oper) (o : Oper) (os : List Oper) (k : List Fr) (l : Loc) (h : Hp) : Option Bool → Prop
  | some true => StepR E cx o l (fun e l' h' => Run E (lim E) cx Q (.ops a os :: k) e l' h') (aop E l.ev h o.op)
  | some false => Run E (lim E) cx Q (.ops a os :: k) .normal (l.put o.dst (.tuple #[])) h
  | none => False
def CStep (a b : Code) (k : List Fr) (l : Loc) (h : Hp) : Value → Prop
  | .bool true => Run E (lim E) cx Q (.code a :: k) .normal l h
  | .bool false => Run E (lim E) cx Q (.code b :: k) .normal l h
  | _ => False
def DStepQ (a : List Oper) (q : Nat) (ps : List (Nat × Nat)) (o : Oper) (os : List Oper) (i : Nat) (tr : List (Nat × Tch)) (k : List Fr) (l : Loc) (h : Hp) : Option Bool → Bool → Prop
  | some true, false => StepN E (fun v h' => Run E (lim E) cx Q (.opsD a q ps os (i + 1) (noted i tr (noteOf l.ev false o.op h h')) :: k) .normal (l.put o.dst v) h') (aop E l.ev h o.op)
  | some true, true => StepN E (fun v h' => Nat.ble h.n h'.lo = true ∧ Run E (lim E) cx Q (.opsD a q ps os (i + 1) (noted i tr (noteOf l.ev true o.op h h)) :: k) .normal (l.put o.dst v) { h' with lo := h.lo }) (aop E l.ev { h with lo := h.n } o.op)
  | some false, _ => Run E (lim E) cx Q (.opsD a q ps os (i + 1) tr :: k) .normal (l.put o.dst (.tuple #[])) h
  | none, _ => False
end
section
variable {E : Env} {cx : Cx} {Q : Post} {k : List Fr} {l : Loc} {h : Hp}
theorem r_ops {a os : List Oper} {o : Oper} : Run E (lim E) cx Q (.ops a (o :: os) :: k) .normal l h ↔ GStep E cx Q a o os k l h (guardOk a l.regs o) := by
  rw [run_ops_cons]
  cases guardOk a l.regs o with
  | none => exact ⟨fun ⟨_, e, _⟩ => (by cases e), fun h => h.elim⟩
  | some b =>
    rw [exists_some]
    cases b with
    | true => rw [if_pos rfl]; exact then_step
    | false => rw [if_neg (by simp)]; exact Iff.rfl
theorem g_true {a os : List Oper} {o : Oper} : GStep E cx Q a o os k l h (some true) ↔ StepR E cx o l (fun e l' h' => Run E (lim E) cx Q (.ops a os :: k) e l' h') (aop E l.ev h o.op) := Iff.rfl
theorem g_false {a os : List Oper} {o : Oper} : GStep E cx Q a o os k l h (some false) ↔ Run E (lim E) cx Q (.ops a os :: k) .normal (l.put o.dst (.tuple #[])) h := Iff.rfl
theorem r_cond {c : Operand} {a b : Code} : Run E (lim E) cx Q (.code (.cond c a b) :: k) .normal l h ↔ CStep E cx Q a b k l h (l.ev c) := by
  rw [run_cond]
  cases l.ev c <;> (try (exact ⟨fun ⟨_, e, _⟩ => (by cases e), fun h => h.elim⟩))
  rename_i t
  rw [exists_bool]
  cases t with
  | true => rw [if_pos rfl]; exact Iff.rfl
  | false => rw [if_neg (by simp)]; exact Iff.rfl
theorem c_true {a b : Code} : CStep E cx Q a b k l h (.bool true) ↔ Run E (lim E) cx Q (.code a :: k) .normal l h := Iff.rfl
theorem c_false {a b : Code} : CStep E cx Q a b k l h (.bool false) ↔ Run E (lim E) cx Q (.code b :: k) .normal l h := Iff.rfl
theorem r_opsD {a os : List Oper} {o : Oper} {q i : Nat} {ps : List (Nat × Nat)} {tr : List (Nat × Tch)} : Run E (lim E) cx Q (.opsD a q ps (o :: os) i tr :: k) .normal l h ↔ DStepQ E cx Q a q ps o os i tr k l h (guardOk a l.regs o) (hush E q i o.op) := by
  rw [run_opsD]
  cases guardOk a l.regs o with
  | none => exact ⟨fun ⟨_, e, _⟩ => (by cases e), fun h => h.elim⟩
  | some b =>
    rw [exists_some]
    cases b with
    | true =>
      rw [if_pos rfl]
      cases hush E q i o.op with
      | true => rw [if_pos rfl]; exact Iff.rfl
      | false => rw [if_neg (by simp)]; exact Iff.rfl
    | false => rw [if_neg (by simp)]; exact Iff.rfl
theorem d_loud {a os : List Oper} {o : Oper} {q i : Nat} {ps : List (Nat × Nat)} {tr : List (Nat × Tch)} : DStepQ E cx Q a q ps o os i tr k l h (some true) false ↔ StepN E (fun v h' => Run E (lim E) cx Q (.opsD a q ps os (i + 1) (noted i tr (noteOf l.ev false o.op h h')) :: k) .normal (l.put o.dst v) h') (aop E l.ev h o.op) := Iff.rfl
theorem d_quiet {a os : List Oper} {o : Oper} {q i : Nat} {ps : List (Nat × Nat)} {tr : List (Nat × Tch)} : DStepQ E cx Q a q ps o os i tr k l h (some true) true ↔ StepN E (fun v h' => Nat.ble h.n h'.lo = true ∧ Run E (lim E) cx Q (.opsD a q ps os (i + 1) (noted i tr (noteOf l.ev true o.op h h)) :: k) .normal (l.put o.dst v) { h' with lo := h.lo }) (aop E l.ev { h with lo := h.n } o.op) := Iff.rfl
theorem d_skip {a os : List Oper} {o : Oper} {q i : Nat} {ps : List (Nat × Nat)} {tr : List (Nat × Tch)} {b : Bool} : DStepQ E cx Q a q ps o os i tr k l h (some false) b ↔ Run E (lim E) cx Q (.opsD a q ps os (i + 1) tr :: k) .normal (l.put o.dst (.tuple #[])) h := Iff.rfl
theorem noted_none {i : Nat} {tr : List (Nat × Tch)} : noted i tr none = tr := rfl
theorem noted_some {i : Nat} {b : Tch} {tr : List (Nat × Tch)} : noted i tr (some b) = (i, b) :: tr := rfl
theorem pairs_nil {tr : List (Nat × Tch)} : pairsOk tr [] = true := rfl
theorem guard_no {a : List Oper} {rg : Tr Value} {d : Option Tmp} {op : Op} {t : TypeId} {p : String} {af : Array Edge} : guardOk a rg ⟨d, op, t, p, af, none⟩ = some true := rfl
end
end Go.Ab
namespace Go.Ab
theorem b_eqlB {E : Env} {t : TypeId} {x y : Operand} {a b : Bool} (hu : E.und t = some .bool) : binP E .eql t x y (.bool a) (.bool b) = some (.bool (bif a then b else !b)) := by
  simp [binP, eqTop, eqIn, hu]
theorem b_neqB {E : Env} {t : TypeId} {x y : Operand} {a b : Bool} (hu : E.und t = some .bool) : binP E .neq t x y (.bool a) (.bool b) = some (.bool (!(bif a then b else !b))) := by
  simp [binP, eqTop, eqIn, hu]
theorem same_bool {d : Bool} : (bif d then d else !d) = true := by cases d <;> rfl
end Go.Ab
namespace Go.Ab
/-! ### new blocks, by their rows -/
noncomputable def boxR (h : Hp) (t : TypeId) : Value → Option (ANext × Hp)
  | .chan _ => none
  | v => some (.val (ptrTo h.n), h.new (.cells (Tr.ofList (vcells v)) (vcells v).length t 1))
theorem o_boxR {E : Env} {ρ : Operand → Value} {h : Hp} {t : TypeId} {x : Operand} : aop E ρ h (.box t x) = boxR h t (ρ x) := by
  simp only [aop]; cases ρ x <;> rfl
noncomputable def allocR (h : Hp) (t : TypeId) : Option (List Value) → Option (ANext × Hp)
  | none => none
  | some z => some (.val (ptrTo h.n), h.new (.cells (Tr.ofList z) z.length t 1))
theorem o_allocR {E : Env} {ρ : Operand → Value} {h : Hp} {t : TypeId} : aop E ρ h (.alloc t) = allocR h t (E.zero t) := by
  simp only [aop]; cases E.zero t <;> rfl
section
variable {E : Env} {cx : Cx} {o : Oper} {l : Loc} {K : Ex → Loc → Hp → Prop} {h : Hp}
theorem row_new' {h : Hp} (ok : h.t.Sized h.n) (l : List Value) (t : TypeId) : Gr h (h.new (.cells (Tr.ofList l) l.length t 1)) ∧ Row (h.new (.cells (Tr.ofList l) l.length t 1)) h.n l 1 := ⟨Gr.new ok _, row_new ok l t 1⟩
theorem step_box {v : Value} {t : TypeId} (ok : h.t.Sized h.n) (hv : ∀ x, v ≠ .chan x) (hk : ∀ h' b, Gr h h' → Row h' b (vcells v) 1 → h.n ≤ b → h'.n = b + 1 → K .normal (l.put o.dst (ptrTo b)) h') : StepR E cx o l K (boxR h t v) := by
  have := hk _ _ (row_new' ok (vcells v) t).1 (row_new' ok (vcells v) t).2 (Nat.le_refl _) rfl
  cases v <;> first | exact this | exact absurd rfl (hv _)
theorem step_alloc {z : List Value} {t : TypeId} (ok : h.t.Sized h.n) (hk : ∀ h' b, Gr h h' → Row h' b z 1 → h.n ≤ b → h'.n = b + 1 → K .normal (l.put o.dst (ptrTo b)) h') : StepR E cx o l K (allocR h t (some z)) :=
  hk _ _ (row_new' ok z t).1 (row_new' ok z t).2 (Nat.le_refl _) rfl
theorem stepN_box {KN : Value → Hp → Prop} {v : Value} {t : TypeId} (ok : h.t.Sized h.n) (hv : ∀ x, v ≠ .chan x) (hk : ∀ h' b, Gr h h' → Row h' b (vcells v) 1 → h.n ≤ b → h'.n = b + 1 → KN (ptrTo b) h') : StepN E KN (boxR h t v) := by
  have := hk _ _ (row_new' ok (vcells v) t).1 (row_new' ok (vcells v) t).2 (Nat.le_refl _) rfl
  cases v <;> first | exact this | exact absurd rfl (hv _)
theorem hoist_no {ops : List Oper} (h : (ops.any isFree && ops.all (guardIn ops.length)) = false) : hoist ops = ops := by unfold hoist; rw [h]; rfl
theorem draw_step {Q : Post} {k : List Fr} {id : Nat} {ops : Array Oper} {q : Nat} {ps : List (Nat × Nat)} {os : List Oper} (hh : hoist ops.toList = os) (hp : plan E os = some (q, ps)) (hr : Run E (lim E) cx Q (.opsD os q ps os 0 [] :: k) .normal l h) : Run E (lim E) cx Q (.code (.region id ops true) :: k) .normal l h := (run_draw hh hp).2 hr
end
theorem b_shr1 {E : Env} {t : TypeId} {x y : Operand} {k k' : IntKind} {m : Int} (hm : 0 ≤ m) : binP E .shr t x y (.int k m) (.int k' 1) = some (.int k (m / 2)) := by
  have hb : Nat.ble 1 (bitsOf k) = true := by cases k <;> rfl
  have h1 : natOf 1 = some 1 := rfl
  simp only [binP, shiftI, h1, hb, cond_true, Option.map_some]
  cases m with
  | ofNat n => rfl
  | negSucc n => exact absurd hm (by simp)
theorem quiet_ok {h h' : Hp} (g : Gr { h with lo := h.n } h') : Nat.ble h.n h'.lo = true := g.hlo
theorem ok_lo {h : Hp} (ok : h.t.Sized h.n) (x : Nat) : ({ h with lo := x } : Hp).t.Sized ({ h with lo := x } : Hp).n := ok
theorem gr_lo {h h' : Hp} (g : Gr { h with lo := h.n } h') : Gr h { h' with lo := h.lo } :=
  ⟨g.ok0, g.ok, g.n, g.get, fun _ _ h => h⟩
end Go.Ab
namespace Go.Ab
theorem hush_s {E : Env} {q i : Nat} {op : Op} : hush E q i op = (decide (q / 2 ^ i % 2 = 1) && decide (3 ≤ cls E op)) := by
  unfold hush
  rw [Nat.testBit_eq_decide_div_mod_eq, nble_eq]
end Go.Ab
namespace Go.Ab
theorem stepN_quiet {E : Env} {K : Value → Hp → Prop} {f : FuncId} {args : List Value} {h : Hp} {v : Value} (hr : Pure E f args { h with lo := h.n } v) (hk : ∀ h', Gr h h' → K v h') :
    StepN E (fun v h' => Nat.ble h.n h'.lo = true ∧ K v { h' with lo := h.lo }) (some (.call f args, { h with lo := h.n })) :=
  stepN_pure hr fun h' g => ⟨quiet_ok g, hk _ (gr_lo g)⟩
end Go.Ab
namespace Go.Ab
section
variable (E : Env) (cx : Cx) (Q : Post) (a : List Oper) (q : Nat) (ps : List (Nat × Nat)) (o : Oper) (os : List Oper) (i : Nat) (k : List Fr) (l : Loc)
def DN (tr : Hp → List (Nat × Tch)) (x : Option (ANext × Hp)) : Prop := StepN E (fun v h' => Run E (lim E) cx Q (.opsD a q ps os (i + 1) (tr h') :: k) .normal (l.put o.dst v) h') x
def DQ (h : Hp) (tr : List (Nat × Tch)) (x : Option (ANext × Hp)) : Prop := StepN E (fun v h' => Nat.ble h.n h'.lo = true ∧ Run E (lim E) cx Q (.opsD a q ps os (i + 1) tr :: k) .normal (l.put o.dst v) { h' with lo := h.lo }) x
end
section
variable {E : Env} {cx : Cx} {Q : Post} {a : List Oper} {q : Nat} {ps : List (Nat × Nat)} {o : Oper} {os : List Oper} {i : Nat} {k : List Fr} {l : Loc} {h : Hp} {tr : List (Nat × Tch)} {tf : Hp → List (Nat × Tch)}
theorem dn_loud : DStepQ E cx Q a q ps o os i tr k l h (some true) false ↔ DN E cx Q a q ps o os i k l (fun h' => noted i tr (noteOf l.ev false o.op h h')) (aop E l.ev h o.op) := Iff.rfl
theorem dn_quiet : DStepQ E cx Q a q ps o os i tr k l h (some true) true ↔ DQ E cx Q a q ps o os i k l h (noted i tr (noteOf l.ev true o.op h h)) (aop E l.ev { h with lo := h.n } o.op) := Iff.rfl
theorem dn_val {v : Value} {h' : Hp} : DN E cx Q a q ps o os i k l tf (some (.val v, h')) ↔ Run E (lim E) cx Q (.opsD a q ps os (i + 1) (tf h') :: k) .normal (l.put o.dst v) h' := Iff.rfl
theorem dn_skip {h' : Hp} : DN E cx Q a q ps o os i k l tf (some (.skip, h')) ↔ Run E (lim E) cx Q (.opsD a q ps os (i + 1) (tf h') :: k) .normal (l.put o.dst (.tuple #[])) h' := Iff.rfl
theorem dn_ret {f : FuncId} {args : List Value} {P : Value → Hp → Prop} (hr : Ret E f args h P) (hk : ∀ v h', P v h' → Run E (lim E) cx Q (.opsD a q ps os (i + 1) (tf h') :: k) .normal (l.put o.dst v) h') : DN E cx Q a q ps o os i k l tf (some (.call f args, h)) := stepN_ret hr hk
theorem dn_pure {f : FuncId} {args : List Value} {v : Value} (hr : Pure E f args h v) (hk : ∀ h', Gr h h' → Run E (lim E) cx Q (.opsD a q ps os (i + 1) (tf h') :: k) .normal (l.put o.dst v) h') : DN E cx Q a q ps o os i k l tf (some (.call f args, h)) := stepN_pure hr hk
theorem dq_pure {f : FuncId} {args : List Value} {v : Value} (hr : Pure E f args { h with lo := h.n } v) (hk : ∀ h', Gr h h' → Run E (lim E) cx Q (.opsD a q ps os (i + 1) tr :: k) .normal (l.put o.dst v) h') : DQ E cx Q a q ps o os i k l h tr (some (.call f args, { h with lo := h.n })) := stepN_quiet hr hk
theorem dq_ret {f : FuncId} {args : List Value} {P : Value → Hp → Prop} (hr : Ret E f args { h with lo := h.n } fun v h' => Gr { h with lo := h.n } h' ∧ P v { h' with lo := h.lo }) (hk : ∀ v h', Gr h h' → P v h' → Run E (lim E) cx Q (.opsD a q ps os (i + 1) tr :: k) .normal (l.put o.dst v) h') : DQ E cx Q a q ps o os i k l h tr (some (.call f args, { h with lo := h.n })) :=
  stepN_ret hr fun v h' ⟨g, p⟩ => ⟨quiet_ok g, hk v _ (gr_lo g) p⟩
theorem dq_box {v : Value} {t : TypeId} (ok : h.t.Sized h.n) (hv : ∀ x, v ≠ .chan x) (hk : ∀ h' b, Gr h h' → Row h' b (vcells v) 1 → h.n ≤ b → h'.n = b + 1 → Run E (lim E) cx Q (.opsD a q ps os (i + 1) tr :: k) .normal (l.put o.dst (ptrTo b)) h') : DQ E cx Q a q ps o os i k l h tr (boxR { h with lo := h.n } t v) := by
  refine stepN_box (h := { h with lo := h.n }) ok hv fun h' b g r h1 h2 => ⟨quiet_ok g, hk _ b (gr_lo g) ?_ h1 h2⟩
  obtain ⟨t, el, x, y, z⟩ := r
  exact ⟨t, el, x, y, z⟩
end
end Go.Ab
namespace Go.Ab
theorem ptr_eq {b : Nat} : ptrTo b = .pointer (some ⟨b, 0, none⟩) := rfl
end Go.Ab

/- From a run of the evaluator to a law. -/
namespace Go.Ab
open Go.ChangeShapes Go.WideShapes Go.RowKit

theorem len3 {α : Type} {l : List α} (h : l.length = 3) : ∃ a b c, l = [a, b, c] := by
  match l, h with
  | [a, b, c], _ => exact ⟨a, b, c, rfl⟩
theorem len4 {α : Type} {l : List α} (h : l.length = 4) : ∃ a b c d, l = [a, b, c, d] := by
  match l, h with
  | [a, b, c, d], _ => exact ⟨a, b, c, d, rfl⟩
theorem len2 {α : Type} {l : List α} (h : l.length = 2) : ∃ a b, l = [a, b] := by
  match l, h with
  | [a, b], _ => exact ⟨a, b, rfl⟩
theorem below_of_ext {w w' : World} {mu' : Mu} {h' : Hp} (e : Ext mu0 hp0 w mu' h' w') : Below w.heap.size w w' :=
  ⟨e.os, e.tape, e.output, e.wsize, fun c hc => e.frame c hc (by intro b base top h; unfold mu0 at h; split at h <;> cases h)⟩
theorem hp0_ok : hp0.t.Sized hp0.n := (hrel0 default).sized

/-- The model follows a run that leaves old memory alone. -/
theorem calls_pure {E : Env} {P : Program} (ok : EOk E P) {f : FuncId} {args : List Value} {args' : Array Value} (ha : VL mu0 args args'.toList) (hr : Pure E f args hp0 (.bool true)) (w : World) :
    Calls P f args' w fun e w' => e = .returned (.bool true) ∧ Below w.heap.size w w' := by
  obtain ⟨v, h', hl, rfl, g⟩ := hr
  intro cs
  obtain ⟨_, h1⟩ := lim_ok ok _ _ _ _ _ _ _ hl
  obtain ⟨mu', w', rcC', fr, k1, k2, k3, k4, k5, k6, k7⟩ := h1 mu0 w args' none cs .normal (hrel0 w) glob0 ha trivial (.inl rfl)
  have := k4.normal
  subst this
  obtain ⟨v', l1, l2⟩ := k6
  cases l2
  obtain ⟨fn, r1, r2⟩ := l1.res
  exact ⟨.returned (.bool true), w', fr, ⟨rfl, below_of_ext k2⟩, k5, k7, l1.mode, l1.defers, l1.kind, fn, r1, r2⟩

section
variable {H : Type} {enc : TypeId × Value → H} {P : Program}
theorem below_trodAll (hl : laidOutB P = true) {W W' : World} (hb : Below W.heap.size W W') : ∀ {ts : List TypeId} {vs : List Value} {ds : List (DataW H)} {ps : List MemPlace}, (ts.all fun t => P.readableRec t && decide (t < P.types.size)) = true →
    DataW.TrodAll enc P W 0 (fun _ => true) true ts vs ds ps → (∀ x ∈ ps, x.block < W.heap.size) → DataW.TrodAll enc P W' 0 (fun b => decide (b < W.heap.size)) true ts vs ds ps
  | [], vs, ds, ps, _, h, _ => by
    obtain ⟨rfl, rfl, rfl⟩ := trodAll_nil h
    exact rfl
  | t :: ts, vs, ds, ps, hts, h, hlt => by
    obtain ⟨v, vs1, d, ds1, p, q, rfl, rfl, rfl, h1, h2⟩ := trodAll_cons h
    simp only [List.all_cons, Bool.and_eq_true, decide_eq_true_eq] at hts
    exact ⟨p, q, Below.trod hl hts.1.1 hts.1.2 h1 hb (fun x hx => hlt x (by simp [hx])), below_trodAll hl hb hts.2 h2 (fun x hx => hlt x (by simp [hx])), rfl⟩
theorem post_of_below {f : Func} {s : ChangeSpec} {apart handsOn : Bool} {W W' : World} {args : Array Value} {ds : List (DataW H)} {before : List MemPlace} {bt : TypeId}
    (hl : laidOutB P = true) (hts : (f.params.toList.all fun t => P.readableRec t && decide (t < P.types.size)) = true) (hv : s.vars = [])
    (hW : DataW.Whole enc P f.params.toList s.vars apart W args.toList ds [] before) (hfn : s.fn H (ds ++ []) = { results := [.lit (.bool true)], args := ds }) (hb : Below W.heap.size W W')
    (hbt : P.underlying bt = some .bool) (hrt : f.resultTypes = #[bt]) :
    s.post enc P f apart true handsOn false W args (.bool true) W' := by
  have hlt := hW.lt
  have hW' := hW
  obtain ⟨p, q, hA, hV, rfl, hz, hn⟩ := hW
  rw [hv] at hV
  obtain ⟨_, rfl⟩ := trodVars_none hV
  refine ⟨ds, [], _, [], p, [], hW', ?_, ?_, ?_, ⟨hb.os, hb.output, fun i hi => ?_⟩, fun h => by cases h⟩
  · rw [hfn, hrt]
    exact trodAll_cons_mk (shut_bool hbt _) trodAll_mk0
  · rw [hfn]
    exact below_trodAll hl hb hts hA (fun x hx => hlt x (by simpa using hx))
  · rw [hfn, hv]; rfl
  · rw [hb.block i hi]
    split
    · rename_i h1 h2; rw [h1] at h2; cases h2; exact ⟨rfl, rfl, rfl, fun _ _ => rfl⟩
    · rename_i h1 h2; rw [h1] at h2; cases h2; exact .inr ⟨rfl, rfl⟩
    · rfl

theorem nums_of {k : IntKind} : ∀ (l : List Value), (∀ i, i < l.length → ∃ z, (l.drop i).take 1 = [.int k z] ∧ (Lit.int k z).wf = true) → ∃ ns : List Int, l = ns.map (.int k) ∧ ∀ x ∈ ns, (Lit.int k x).wf = true
  | [], _ => ⟨[], rfl, fun x hx => by cases hx⟩
  | v :: l, h => by
    obtain ⟨z, h1, h2⟩ := h 0 (by simp)
    obtain ⟨ns, h3, h4⟩ := nums_of l (fun i hi => by have := h (i + 1) (by simp; omega); simpa using this)
    simp at h1
    refine ⟨z :: ns, by rw [h1, h3]; rfl, fun x hx => ?_⟩
    rcases List.mem_cons.1 hx with rfl | hx
    · exact h2
    · exact h4 x hx
theorem bools_of : ∀ (l : List Value), (∀ i, i < l.length → ∃ z, (l.drop i).take 1 = [.bool z]) → ∃ ns : List Bool, l = ns.map .bool
  | [], _ => ⟨[], rfl⟩
  | v :: l, h => by
    obtain ⟨z, h1⟩ := h 0 (by simp)
    obtain ⟨ns, h3⟩ := bools_of l (fun i hi => by have := h (i + 1) (by simp; omega); simpa using this)
    simp at h1
    exact ⟨z :: ns, by rw [h1, h3]; rfl⟩
/-- An array of numbers, opened. -/
theorem open_nums {W : World} {base n : Nat} {t e : TypeId} {k : IntKind} {v : Value} {d : DataW H} {p : List MemPlace} {sp : Nat → Bool} {hd : Bool} (ht : P.underlying t = some (.array n e)) (he : P.underlying e = some (.int k)) (hc : P.cellsOf e = 1) (hn : P.cellsOf t = n)
    (hval : Value.okWide P W .any base t v) (h : DataW.Trod enc P W 0 sp hd t v d p) : ∃ ns : List Int, v = .agg ⟨ns.map (.int k)⟩ ∧ ns.length = n ∧ ∀ x ∈ ns, (Lit.int k x).wf = true := by
  unfold Value.okWide at hval
  rw [ht] at hval
  obtain ⟨cs, rfl, _, _⟩ := hval
  obtain ⟨fuel, h⟩ := h
  obtain ⟨xs, m, rfl, _, hlen, hxl, hel⟩ := DataW.trod_array ht h
  have hl2 : cs.toList.length = n := by rw [← hn]; exact hlen
  obtain ⟨ns, h1, h2⟩ := nums_of cs.toList (fun i hi => by
    have h3 := hel i (by omega)
    rw [hc, Nat.mul_one] at h3
    have h4 : xs[i]? = some xs[i] := List.getElem?_eq_getElem (by omega)
    rw [h4] at h3
    obtain ⟨z, e1, _, e3⟩ := DataW.trod_int he h3
    exact ⟨z, e1, e3⟩)
  refine ⟨ns, ?_, ?_, h2⟩
  · congr 1
    apply Array.ext'
    exact h1
  · have := congrArg List.length h1
    simp at this
    simp at hl2
    omega
theorem open_bools {W : World} {base n : Nat} {t e : TypeId} {v : Value} {d : DataW H} {p : List MemPlace} {sp : Nat → Bool} {hd : Bool} (ht : P.underlying t = some (.array n e)) (he : P.underlying e = some .bool) (hc : P.cellsOf e = 1) (hn : P.cellsOf t = n)
    (hval : Value.okWide P W .any base t v) (h : DataW.Trod enc P W 0 sp hd t v d p) : ∃ ns : List Bool, v = .agg ⟨ns.map .bool⟩ ∧ ns.length = n := by
  unfold Value.okWide at hval
  rw [ht] at hval
  obtain ⟨cs, rfl, _, _⟩ := hval
  obtain ⟨fuel, h⟩ := h
  obtain ⟨xs, m, rfl, _, hlen, hxl, hel⟩ := DataW.trod_array ht h
  have hl2 : cs.toList.length = n := by rw [← hn]; exact hlen
  obtain ⟨ns, h1⟩ := bools_of cs.toList (fun i hi => by
    have h3 := hel i (by omega)
    rw [hc, Nat.mul_one] at h3
    have h4 : xs[i]? = some xs[i] := List.getElem?_eq_getElem (by omega)
    rw [h4] at h3
    obtain ⟨z, e1, _⟩ := DataW.trod_bool he h3
    exact ⟨z, e1⟩)
  refine ⟨ns, ?_, ?_⟩
  · congr 1
    apply Array.ext'
    exact h1
  · have := congrArg List.length h1
    simp at this
    simp at hl2
    omega
theorem vrel_ints (mu : Mu) (k : IntKind) (ns : List Int) : VRel mu (.agg ⟨ns.map (.int k)⟩) (.agg ⟨ns.map (.int k)⟩) := by
  refine .agg rfl fun i v v' h1 h2 => ?_
  rw [h1] at h2; cases h2
  simp only [List.getElem?_map, Option.map_eq_some_iff] at h1
  obtain ⟨a, _, rfl⟩ := h1
  exact .int _ _
theorem vrel_bools (mu : Mu) (ns : List Bool) : VRel mu (.agg ⟨ns.map .bool⟩) (.agg ⟨ns.map .bool⟩) := by
  refine .agg rfl fun i v v' h1 h2 => ?_
  rw [h1] at h2; cases h2
  simp only [List.getElem?_map, Option.map_eq_some_iff] at h1
  obtain ⟨a, _, rfl⟩ := h1
  exact .bool _
end
end Go.Ab

/- The heap at the outset, where arguments lie in memory: the world's own cells, not to be written. -/
namespace Go.Ab
open Go.ChangeShapes Go.WideShapes Go.RowKit
noncomputable section

/-- A cell's value, as the abstract heap has it. -/
def absV (n : Nat) : Value → Value
  | .bool b => .bool b
  | .int k i => .int k i
  | .string s => .string s
  | .pointer none => .pointer none
  | .pointer (some a) => if a.spot = none ∧ a.block < n then .pointer (some ⟨a.block + 16, a.off, none⟩) else poison
  | .slice none 0 0 => .slice none 0 0
  | .slice (some a) len cap => if len ≤ cap then (if a.spot = none ∧ a.block < n then .slice (some ⟨a.block + 16, a.off, none⟩) len cap else .slice (some ⟨0, 0, none⟩) len cap) else poison
  | _ => poison
/-- An argument. -/
def absA (n : Nat) : Value → Value
  | .agg cs => .agg ⟨cs.toList.map (absV n)⟩
  | v => absV n v
def absO (n : Nat) : Obj → Blk
  | .cells cs _ _ => .cells (Tr.ofList (cs.toList.map (absV n))) (cs.toList.map (absV n)).length 0 0
  | _ => .dead
def hpW (W : World) : Hp := { n := 16 + W.heap.size, t := Tr.ofList (List.replicate 16 .dead ++ W.heap.toList.map (absO W.heap.size)), lo := 16 + W.heap.size }
def muW (W : World) : Mu := fun b => if b < 16 then .dead else match W.heap[b - 16]? with
  | some (.cells cs _ _) => .blk (b - 16) 0 cs.size
  | some _ => .dead
  | none => .none

theorem hpW_ok (W : World) : (hpW W).t.Sized (hpW W).n := by
  have h := Tr.sized_ofList (List.replicate 16 Blk.dead ++ W.heap.toList.map (absO W.heap.size))
  have hl : (List.replicate 16 Blk.dead ++ W.heap.toList.map (absO W.heap.size)).length = 16 + W.heap.size := by rw [List.length_append, List.length_replicate, List.length_map, Array.length_toList]
  rw [hl] at h
  exact h
theorem hpW_dead (W : World) {b : Nat} (h : b < 16) : (hpW W).get b = some .dead := by
  show (Tr.ofList _).get b = _
  rw [Tr.get_ofList, List.getElem?_append_left (by simpa using h), List.getElem?_replicate, if_pos h]
theorem hpW_at (W : World) (c : Nat) : (hpW W).get (c + 16) = (W.heap[c]?).map (absO W.heap.size) := by
  show (Tr.ofList _).get (c + 16) = _
  rw [Tr.get_ofList, List.getElem?_append_right (by simp)]
  simp
theorem muW_at (W : World) (c : Nat) : muW W (c + 16) = match W.heap[c]? with
  | some (.cells cs _ _) => .blk c 0 cs.size
  | some _ => .dead
  | none => .none := by
  unfold muW
  rw [if_neg (by omega), show c + 16 - 16 = c by omega]
theorem arel_W {W : World} {a : Addr} (h : a.spot = none ∧ a.block < W.heap.size) : ARel (muW W) ⟨a.block + 16, a.off, none⟩ a := by
  obtain ⟨b, o, s⟩ := a
  obtain ⟨h1, h2⟩ := h
  simp only [] at h1 h2
  subst h1
  unfold ARel
  rw [muW_at]
  rw [Array.getElem?_eq_getElem h2]
  cases W.heap[b] <;> simp
theorem vrel_V (W : World) (v : Value) : VRel (muW W) (absV W.heap.size v) v := by
  cases v <;> (try exact .poison _)
  · exact .bool _
  · exact .int _ _
  · exact .string _
  · rename_i a
    cases a with
    | none => exact .nilp
    | some a =>
      simp only [absV]
      split
      · exact .ptr (arel_W ‹_›)
      · exact .poison _
  · rename_i a len cap
    cases a with
    | none =>
      cases len with
      | zero => cases cap with
        | zero => exact .nils
        | succ n => exact .poison _
      | succ n => exact .poison _
    | some a =>
      simp only [absV]
      split
      · rename_i hlc
        split
        · rename_i h
          refine .slice hlc ?_
          have := arel_W h
          obtain ⟨b, o, s⟩ := a
          obtain ⟨h1, h2⟩ := h
          simp only [] at h1 h2
          subst h1
          unfold SRel
          rw [muW_at]
          rw [Array.getElem?_eq_getElem h2]
          cases W.heap[b] <;> simp
        · refine .slice hlc ?_
          unfold SRel
          have : muW W 0 = .dead := by simp [muW]
          rw [this]
          exact Nat.le_refl _
      · exact .poison _
theorem vrel_A (W : World) (v : Value) : VRel (muW W) (absA W.heap.size v) v := by
  cases v
  case agg cs =>
    refine .agg (by simp) fun i x x' h1 h2 => ?_
    simp only [List.getElem?_map, Option.map_eq_some_iff] at h1
    obtain ⟨y, h3, rfl⟩ := h1
    rw [h3] at h2
    cases h2
    exact vrel_V W _
  all_goals (unfold absA; exact vrel_V W _)
theorem hrelW (W : World) : HRel (muW W) (hpW W) W := by
  refine ⟨hpW_ok W, fun b c base top hm => ?_, fun b hm => ?_, fun b b' c base top base' top' h1 h2 => ?_, fun b hm => ?_⟩
  · have hb : 16 ≤ b := by
      rcases Nat.lt_or_ge b 16 with h | h
      · unfold muW at hm; rw [if_pos h] at hm; cases hm
      · exact h
    obtain ⟨k, rfl⟩ : ∃ k, b = k + 16 := ⟨b - 16, by omega⟩
    rw [muW_at] at hm
    split at hm
    next cs el fz ho =>
      cases hm
      refine ⟨absO W.heap.size (.cells cs el fz), _, by rw [hpW_at, ho]; rfl, ho, cs, el, fz, rfl, rfl, by simp, Tr.sized_ofList _, fun i v hv => ?_, fun h => absurd rfl h⟩
      rw [Tr.get_ofList] at hv
      simp only [List.getElem?_map, Option.map_eq_some_iff] at hv
      obtain ⟨y, h3, rfl⟩ := hv
      exact ⟨y, by simpa using h3, vrel_V W y⟩
    next => cases hm
    next => cases hm
  · rcases Nat.lt_or_ge b 16 with h | h
    · exact hpW_dead W h
    · obtain ⟨k, rfl⟩ : ∃ k, b = k + 16 := ⟨b - 16, by omega⟩
      rw [muW_at] at hm
      split at hm
      next => cases hm
      next o ho1 ho2 =>
        rw [hpW_at, ho2]
        cases o <;> first | rfl | exact absurd rfl (ho1 _ _ _)
      next => cases hm
  · have key : ∀ b c base top, muW W b = .blk c base top → b = c + 16 := by
      intro b c base top hm
      rcases Nat.lt_or_ge b 16 with h | h
      · unfold muW at hm; rw [if_pos h] at hm; cases hm
      · obtain ⟨k, rfl⟩ : ∃ k, b = k + 16 := ⟨b - 16, by omega⟩
        rw [muW_at] at hm
        split at hm <;> cases hm
        rfl
    rw [key b c _ _ h1, key b' c _ _ h2]
  · show b < 16 + W.heap.size
    rcases Nat.lt_or_ge b 16 with h | h
    · omega
    · obtain ⟨k, rfl⟩ : ∃ k, b = k + 16 := ⟨b - 16, by omega⟩
      rw [muW_at] at hm
      have : k < W.heap.size := by
        rcases Nat.lt_or_ge k W.heap.size with h2 | h2
        · exact h2
        · rw [Array.getElem?_eq_none h2] at hm; exact absurd rfl hm
      omega
theorem globW (W : World) : Glob (muW W) := by
  intro g hg
  unfold ARel
  have : muW W g = .dead := by unfold muW; rw [if_pos hg]
  simp only [this]
theorem belowW {W w' : World} {mu' : Mu} {h' : Hp} (e : Ext (muW W) (hpW W) W mu' h' w') : Below W.heap.size W w' := by
  refine ⟨e.os, e.tape, e.output, e.wsize, fun c hc => ?_⟩
  cases ho : W.heap[c] with
  | cells cs el fz =>
    have h1 : W.heap[c]? = some (.cells cs el fz) := by rw [Array.getElem?_eq_getElem hc, ho]
    have h2 : muW W (c + 16) = .blk c 0 cs.size := by rw [muW_at, h1]
    exact (e.ro (c + 16) c 0 cs.size _ _ 0 h2 (by rw [hpW_at, h1]; rfl)).1
  | _ =>
    refine e.frame c hc fun b base top hm => ?_
    rcases Nat.lt_or_ge b 16 with h | h
    · unfold muW at hm; rw [if_pos h] at hm; cases hm
    · obtain ⟨k, rfl⟩ : ∃ k, b = k + 16 := ⟨b - 16, by omega⟩
      rw [muW_at] at hm
      split at hm
      next cs' el' fz' ho' =>
        cases hm
        rw [Array.getElem?_eq_getElem hc, ho] at ho'
        cases ho'
      next => cases hm
      next => cases hm
/-- The model follows a run that leaves old memory alone, whatever its arguments. -/
theorem calls_W {E : Env} {P : Program} (ok : EOk E P) {f : FuncId} {args : Array Value} {W : World} (hr : Pure E f (args.toList.map (absA W.heap.size)) (hpW W) (.bool true)) :
    Calls P f args W fun e w' => e = .returned (.bool true) ∧ Below W.heap.size W w' := by
  obtain ⟨v, h', hl, rfl, g⟩ := hr
  intro cs
  obtain ⟨_, h1⟩ := lim_ok ok _ _ _ _ _ _ _ hl
  have ha : VL (muW W) (args.toList.map (absA W.heap.size)) args.toList := by
    refine ⟨by simp, fun i x x' h1 h2 => ?_⟩
    simp only [List.getElem?_map, Option.map_eq_some_iff] at h1
    obtain ⟨y, h3, rfl⟩ := h1
    rw [h3] at h2
    cases h2
    exact vrel_A W _
  obtain ⟨mu', w', rcC', fr, k1, k2, k3, k4, k5, k6, k7⟩ := h1 (muW W) W args none cs .normal (hrelW W) (globW W) ha trivial (.inl rfl)
  have := k4.normal
  subst this
  obtain ⟨v', l1, l2⟩ := k6
  cases l2
  obtain ⟨fn, r1, r2⟩ := l1.res
  exact ⟨.returned (.bool true), w', fr, ⟨rfl, belowW k2⟩, k5, k7, l1.mode, l1.defers, l1.kind, fn, r1, r2⟩
theorem spot_W {W : World} {a : Addr} {v : Value} (h : W.cell? a = some v) : a.spot = none ∧ a.block < W.heap.size := by
  unfold World.cell? at h
  split at h
  next cs el fz ho =>
    have hlt := (Array.getElem?_eq_some_iff.1 ho).1
    cases hsp : a.spot with
    | some k => rw [hsp] at h; simp at h
    | none => exact ⟨rfl, hlt⟩
  all_goals (first | cases h | skip)
/-- A cell of the world, in the heap. -/
theorem load_W {W : World} {a : Addr} {i : Nat} {v : Value} (hsp : a.spot = none) (h : W.cell? (a.add i) = some v) : (hpW W).load (a.block + 16) (a.off + i) 1 = some [absV W.heap.size v] := by
  obtain ⟨b, o, s⟩ := a
  simp only [] at hsp
  subst hsp
  have he : (Addr.mk b o none).add i = ⟨b, o + i, none⟩ := by
    unfold Addr.add
    split
    · rename_i h; subst h; rfl
    · rfl
  rw [he] at h
  unfold World.cell? at h
  simp only [] at h
  split at h
  next cs el fz ho =>
    have hr : Row (hpW W) (b + 16) (cs.toList.map (absV W.heap.size)) 0 := ⟨_, _, by rw [hpW_at, ho]; rfl, Tr.sized_ofList _, fun j => Tr.get_ofList _ j⟩
    refine hr.load1 ?_
    rw [List.getElem?_map]
    simp at h
    simp [h]
  all_goals (first | cases h | skip)
end
end Go.Ab

/- Tables of what functions answer. -/
namespace Go.Ab
def argEq : Value → Value → Bool
  | .int k a, .int k' b => keqb k k' && ibeq a b
  | .bool a, .bool b => bif a then b else !b
  | .string s, .string u => bytesEq (byteList s) (byteList u)
  | _, _ => false
def argsEq : List Value → List Value → Bool
  | [], [] => true
  | a :: l, b :: m => argEq a b && argsEq l m
  | _, _ => false
def orcOf : List (Nat × List Value × Value) → Nat → List Value → Option Value
  | [], _, _ => none
  | (f, as, v) :: l, g, args => bif Nat.beq f g && argsEq as args then some v else orcOf l g args
theorem argEq_eq {a b : Value} (h : argEq a b = true) : a = b := by
  unfold argEq at h
  split at h
  · rename_i k m k' n
    simp only [Bool.and_eq_true] at h
    have h1 : k = k' := by simpa [keqb_eq] using h.1
    have h2 : m = n := by simpa [ibeq_eq] using h.2
    rw [h1, h2]
  · rename_i a b
    cases a <;> cases b <;> first | rfl | cases h
  · rename_i s u
    have this : s.data.toList = u.data.toList := by
      have := h
      rw [bytesEq_eq] at this
      simpa [byteList] using this
    cases s with | mk a => cases u with | mk b => rw [show a = b from Array.ext' this]
  · cases h
theorem argsEq_eq : ∀ {a b : List Value}, argsEq a b = true → a = b
  | [], [], _ => rfl
  | [], _ :: _, h => by simp [argsEq] at h
  | _ :: _, [], h => by simp [argsEq] at h
  | a :: x, b :: y, h => by
    simp only [argsEq, Bool.and_eq_true] at h
    rw [argsEq_eq h.2, argEq_eq h.1]
theorem orcOf_all {P : Nat → List Value → Value → Prop} : ∀ {l : List (Nat × List Value × Value)}, (∀ e ∈ l, P e.1 e.2.1 e.2.2) → ∀ {g : Nat} {args : List Value} {v : Value}, orcOf l g args = some v → P g args v
  | [], _, g, args, v, h => by cases h
  | (f, as, x) :: l, hl, g, args, v, h => by
    simp only [orcOf] at h
    cases hb : Nat.beq f g && argsEq as args with
    | true =>
      rw [hb] at h
      cases h
      simp only [Bool.and_eq_true] at hb
      have h1 := Nat.eq_of_beq_eq_true hb.1
      have h2 := argsEq_eq hb.2
      subst h1
      subst h2
      exact hl _ (List.mem_cons_self)
    | false =>
      rw [hb] at h
      exact orcOf_all (fun e he => hl e (List.mem_cons_of_mem _ he)) h
/-- A closed run's answer, for a table. -/
def isVal (v : Value) (r : Option (Out × Option (Value × Bool) × Hp)) : Bool := match r with
  | some (.ret u, none, _) => argEq u v
  | _ => false
theorem isVal_ret {v : Value} {r : Option (Out × Option (Value × Bool) × Hp)} (h : isVal v r = true) : ∃ h', r = some (.ret v, none, h') := by
  unfold isVal at h
  split at h
  · rw [argEq_eq h]; exact ⟨_, rfl⟩
  · cases h
def Known (E : Env) (P : Program) (e : Nat × List Value × Value) : Prop := (∃ fn, E.fn e.1 = some fn ∧ fn.body.isSome = true) ∧ OrcAt P e.1 e.2.1 e.2.2
theorem known_of {E : Env} {P : Program} (ok : EOk E P) {n : Nat} {f : Nat} {args : List Value} {v : Value} (ha : (args.all okConst && okConst v) = true) (hr : isVal v ((runK E n).call f args none hp0) = true) : Known E P (f, args, v) := by
  simp only [Bool.and_eq_true] at ha
  obtain ⟨h', hr⟩ := isVal_ret hr
  rw [runK_call] at hr
  exact orc_of_run ok ha.1 ha.2 hr
theorem Known.with {E : Env} {P : Program} {o : Nat → List Value → Option Value} {e : Nat × List Value × Value} (k : Known E P e) : Known (withOrc E o) P e := k
theorem Known.without {E : Env} {P : Program} {o : Nat → List Value → Option Value} {e : Nat × List Value × Value} (k : Known (withOrc E o) P e) : Known E P e := k
theorem eok_table {E : Env} {P : Program} (ok : EOk E P) {l : List (Nat × List Value × Value)} (hl : ∀ e ∈ l, Known E P e) : EOk (withOrc E (orcOf l)) P :=
  eok_with ok fun _ _ _ h => orcOf_all (P := fun g args v => Known E P (g, args, v)) hl h
end Go.Ab
