/- A deterministic evaluator of the model's code, and that the model follows it (part 4). -/
import Derived.Test.YtmhoojmmahpacacGreatDoorAbC
import Derived.WalkKit
import Derived.ProofKit
import Derived.OpenShut
import Derived.Carry
set_option maxHeartbeats 400000
set_option linter.defProp false
set_option linter.unusedVariables false
set_option linter.unusedSimpArgs false
/- Equations of operations, one by one, for rewriting. -/
namespace Go.Ab
section
variable {E : Env} {ρ : Operand → Value} {h : Hp}
theorem o_move {x : Operand} : aop E ρ h (.move x) = some (.val (ρ x), h) := rfl
theorem o_assign {x : Operand} : aop E ρ h (.assign x) = some (.val (ρ x), h) := rfl
theorem o_pick {c a b : Operand} : aop E ρ h (.pick c a b) = wrapR h (match ρ c with | .bool t => some (bif t then ρ a else ρ b) | _ => none) := rfl
theorem o_load {t : TypeId} {a : Operand} : aop E ρ h (.load t a) = wrapR h (loadV E h t (ρ a)) := rfl
theorem o_store {t : TypeId} {a x : Operand} : aop E ρ h (.store t a x) = wrapU (storeV E h t (ρ a) (ρ x)) := rfl
theorem o_binOp {op : BinOp} {t u : TypeId} {x y : Operand} : aop E ρ h (.binOp op t x y u) = wrapR h (binP E op t x y (ρ x) (ρ y)) := rfl
theorem o_unOp {op : UnOp} {t : TypeId} {x : Operand} : aop E ρ h (.unOp op t x) = wrapR h (unP op (ρ x)) := rfl
theorem o_nilCheck {x : Operand} : aop E ρ h (.nilCheck x) = wrapR h (match ρ x with | .pointer (some a) => some (.pointer (some a)) | .func (.func f) a b => some (.func (.func f) a b) | _ => none) := rfl
theorem o_makeInterface {t : TypeId} {x : Operand} : aop E ρ h (.makeInterface t x) = wrapR h (match E.und t with | none => none | some (.interface _) => none | some _ => some (.iface t (ρ x))) := rfl
theorem o_makeFunc {f : FuncId} {a b : Array Operand} : aop E ρ h (.makeFunc (.func f) a b) = some (.val (.func (.func f) (a.map ρ) (b.map ρ)), h) := rfl
theorem o_slice {t : TypeId} {x : Operand} {l u m : Option Operand} : aop E ρ h (.slice t x l u m) = wrapR h (sliceP E t (ρ x) (l.map ρ) (u.map ρ) (m.map ρ)) := rfl
theorem o_fieldAddr {s : TypeId} {x : Operand} {i : Nat} : aop E ρ h (.fieldAddr s x i) = wrapR h (fieldAddrP E s (ρ x) i) := rfl
theorem o_field {s : TypeId} {x : Operand} {i : Nat} : aop E ρ h (.field s x i) = wrapR h (fieldP E s (ρ x) i) := rfl
theorem o_indexAddr {t : TypeId} {x i : Operand} : aop E ρ h (.indexAddr t x i) = wrapR h (indexAddrP E t (ρ x) (ρ i)) := rfl
theorem o_index {t : TypeId} {x i : Operand} : aop E ρ h (.index t x i) = wrapR h (indexP E t (ρ x) (ρ i)) := rfl
theorem o_extract {t : Operand} {i : Nat} : aop E ρ h (.extract t i) = wrapR h (match ρ t with | .tuple vs => vs.toList[i]? | _ => none) := rfl
theorem o_build {t : TypeId} {ps : Array (Nat × Operand)} : aop E ρ h (.build t ps) = wrapR h (buildP E t (ps.toList.map fun p => (p.1, ρ p.2))) := rfl
theorem o_buildSlice {t : TypeId} {n : Nat} {ps : Array (Nat × Operand)} : aop E ρ h (.buildSlice t n ps) = wrapV (buildSliceV E h t n (ps.toList.map fun p => (p.1, ρ p.2))) := rfl
theorem o_makeSlice {t : TypeId} {l c : Operand} : aop E ρ h (.makeSlice t l c) = wrapV (makeSliceV E h t (ρ l) (ρ c)) := rfl
theorem o_makeMap {t : TypeId} : aop E ρ h (.makeMap t none) = some (.val (.map (some h.n)), h.new (.map [] 0)) := rfl
theorem o_typeAssert {x : Operand} {s t : TypeId} {ok : Bool} : aop E ρ h (.typeAssert x s t ok) = wrapR h (assertP E (ρ x) t ok) := rfl
theorem o_convert {s t : TypeId} {x : Operand} : aop E ρ h (.convert s t x) = wrapV (convV E h s t (ρ x)) := rfl
theorem o_lookup {t : TypeId} {m k : Operand} {ok : Bool} : aop E ρ h (.lookup t m k ok) = wrapR h (lookupV E h t (ρ m) (ρ k) ok) := rfl
theorem o_mapUpdate {t : TypeId} {m k v : Operand} : aop E ρ h (.mapUpdate t m k v) = wrapU (mapPut E h t (ρ m) (ρ k) (ρ v)) := rfl
theorem o_mapEntry {t : TypeId} {m k : Operand} : aop E ρ h (.mapEntry t m k) = wrapV (mapEnt E h t (ρ m) (ρ k)) := rfl
theorem o_entryStore {t : TypeId} {m s v : Operand} : aop E ρ h (.entryStore t m s v) = wrapU (entStore h (ρ m) (ρ s) (ρ v)) := rfl
theorem o_alloc {t : TypeId} : aop E ρ h (.alloc t) = match E.zero t with | none => none | some z => some (.val (ptrTo h.n), h.new (.cells (Tr.ofList z) z.length t 1)) := by
  simp only [aop]; cases E.zero t <;> rfl
theorem o_box {t : TypeId} {x : Operand} : aop E ρ h (.box t x) = match ρ x with | .chan _ => none | v => some (.val (ptrTo h.n), h.new (.cells (Tr.ofList (vcells v)) (vcells v).length t 1)) := by
  simp only [aop]; cases ρ x <;> rfl
theorem o_callv {f : Operand} {as : Array Operand} {ts : Array TypeId} : aop E ρ h (.call ⟨.value f, as, ts⟩) = match target (ρ f) (as.toList.map ρ) with | none => none | some x => some (x, h) := rfl
theorem o_len {x : Operand} {t : TypeId} {v : Value} (hv : lenP E t (ρ x) = some v) : aop E ρ h (.call ⟨.builtin .len, #[x], #[t]⟩) = some (.val v, h) := by
  simp only [aop, pop, hv]
theorem o_max {x y : Operand} {ts : Array TypeId} : aop E ρ h (.call ⟨.builtin .max, #[x, y], ts⟩) = wrapR h (minmax true (ρ x) [ρ y]) := rfl
theorem o_min {x y : Operand} {ts : Array TypeId} : aop E ρ h (.call ⟨.builtin .min, #[x, y], ts⟩) = wrapR h (minmax false (ρ x) [ρ y]) := rfl
theorem o_append {s x : Operand} {ts : Array TypeId} : aop E ρ h (.call ⟨.builtin .append, #[s, x], ts⟩) = wrapV (appendV E h ts.toList (ρ s) (ρ x)) := rfl
theorem o_copy {s x : Operand} {ts : Array TypeId} : aop E ρ h (.call ⟨.builtin .copy, #[s, x], ts⟩) = wrapV (copyV E h ts.toList (ρ s) (ρ x)) := rfl
end
theorem wrapR_some {h : Hp} {v : Value} : wrapR h (some v) = some (.val v, h) := rfl
theorem wrapV_some {h : Hp} {v : Value} : wrapV (some (h, v)) = some (.val v, h) := rfl
theorem wrapU_some {h : Hp} : wrapU (some h) = some (.skip, h) := rfl
theorem step_call {E : Env} {cx : Cx} {o : Oper} {l : Loc} {K : Ex → Loc → Hp → Prop} {h : Hp} {f : FuncId} {args : List Value} : StepR E cx o l K (some (.call f args, h)) ↔ CallQ E f args none h fun x _ h'' => match x with
    | .ret v => K .normal (l.put o.dst v) h''
    | .pan v => K (.pan v) l h'' := Iff.rfl
theorem guard_none {a : List Oper} {rg : Tr Value} {d : Option Tmp} {op : Op} {t : TypeId} {p : String} {af : Array Edge} {b : Bool} : (guardOk a rg ⟨d, op, t, p, af, none⟩ = some b) = (true = b) := by
  simp [guardOk]
theorem keqb_refl (k : IntKind) : keqb k k = true := by rw [keqb_eq]; simp
theorem b_add {E : Env} {t : TypeId} {x y : Operand} {k : IntKind} {m n : Int} : binP E .add t x y (.int k m) (.int k n) = some (.int k (wrapI k (m + n))) := by simp [binP, keqb_refl, arithI]
theorem b_sub {E : Env} {t : TypeId} {x y : Operand} {k : IntKind} {m n : Int} : binP E .sub t x y (.int k m) (.int k n) = some (.int k (wrapI k (m - n))) := by simp [binP, keqb_refl, arithI]
theorem b_mul {E : Env} {t : TypeId} {x y : Operand} {k : IntKind} {m n : Int} : binP E .mul t x y (.int k m) (.int k n) = some (.int k (wrapI k (m * n))) := by simp [binP, keqb_refl, arithI]
theorem ibeq_dec (m n : Int) : ibeq m n = decide (m = n) := by rw [ibeq_eq]; by_cases h : m = n <;> simp [h]
theorem b_eql {E : Env} {t : TypeId} {x y : Operand} {k : IntKind} {m n : Int} : binP E .eql t x y (.int k m) (.int k n) = some (.bool (decide (m = n))) := by simp [binP, keqb_refl, arithI, ibeq_dec]
theorem b_neq {E : Env} {t : TypeId} {x y : Operand} {k : IntKind} {m n : Int} : binP E .neq t x y (.int k m) (.int k n) = some (.bool (!decide (m = n))) := by simp [binP, keqb_refl, arithI, ibeq_dec]
theorem b_lss {E : Env} {t : TypeId} {x y : Operand} {k : IntKind} {m n : Int} : binP E .lss t x y (.int k m) (.int k n) = some (.bool (decide (m < n))) := by simp [binP, keqb_refl, arithI, iblt_eq]
theorem b_leq {E : Env} {t : TypeId} {x y : Operand} {k : IntKind} {m n : Int} : binP E .leq t x y (.int k m) (.int k n) = some (.bool (decide (m ≤ n))) := by
  simp only [binP, keqb_refl, arithI, iblt_eq, cond_true]
  by_cases hx : m ≤ n
  · rw [decide_eq_true hx, decide_eq_false (by omega)]; rfl
  · rw [decide_eq_false hx, decide_eq_true (by omega)]; rfl
theorem b_gtr {E : Env} {t : TypeId} {x y : Operand} {k : IntKind} {m n : Int} : binP E .gtr t x y (.int k m) (.int k n) = some (.bool (decide (n < m))) := by simp [binP, keqb_refl, arithI, iblt_eq]
theorem b_geq {E : Env} {t : TypeId} {x y : Operand} {k : IntKind} {m n : Int} : binP E .geq t x y (.int k m) (.int k n) = some (.bool (decide (n ≤ m))) := by
  simp only [binP, keqb_refl, arithI, iblt_eq, cond_true]
  by_cases hx : n ≤ m
  · rw [decide_eq_true hx, decide_eq_false (by omega)]; rfl
  · rw [decide_eq_false hx, decide_eq_true (by omega)]; rfl
theorem b_quo {E : Env} {t : TypeId} {x y : Operand} {k : IntKind} {m n : Int} (h : n ≠ 0) : binP E .quo t x y (.int k m) (.int k n) = some (.int k (wrapI k (m.tdiv n))) := by
  simp [binP, keqb_refl, arithI, ibeq_dec, h]
theorem b_rem {E : Env} {t : TypeId} {x y : Operand} {k : IntKind} {m n : Int} (h : n ≠ 0) : binP E .rem t x y (.int k m) (.int k n) = some (.int k (m.tmod n)) := by
  simp [binP, keqb_refl, arithI, ibeq_dec, h]
theorem mm_max {k k' : IntKind} {a b : Int} : minmax true (.int k a) [.int k' b] = some (.int k (max a b)) := by
  simp only [minmax, iblt_eq, cond_true]
  by_cases h : a < b
  · rw [decide_eq_true h]; simp only [cond_true]; rw [Int.max_eq_right (by omega)]
  · rw [decide_eq_false h]; simp only [cond_false]; rw [Int.max_eq_left (by omega)]
theorem mm_min {k k' : IntKind} {a b : Int} : minmax false (.int k a) [.int k' b] = some (.int k (min a b)) := by
  simp only [minmax, iblt_eq, cond_false]
  by_cases h : b < a
  · rw [decide_eq_true h]; simp only [cond_true]; rw [Int.min_eq_right (by omega)]
  · rw [decide_eq_false h]; simp only [cond_false]; rw [Int.min_eq_left (by omega)]
theorem loadV_one {E : Env} {h : Hp} {t : TypeId} {b o : Nat} {s : Option Nat} {v : Value} (ht : E.agg t = some false) (hl : h.load b o 1 = some [v]) : loadV E h t (.pointer (some ⟨b, o, s⟩)) = some v := by
  simp [loadV, ht, hl]
theorem loadV_box {E : Env} {h : Hp} {t : TypeId} {b : Nat} {v : Value} (ht : E.agg t = some false) (hl : h.load b 0 1 = some [v]) : loadV E h t (ptrTo b) = some v := loadV_one ht hl
theorem wrap64 {n : Int} (h1 : -9223372036854775808 ≤ n) (h2 : n < 9223372036854775808) : wrapI .i64 n = n := by
  unfold wrapI
  cases n with
  | ofNat m =>
    have : Nat.blt m (hf .i64) = true := by rw [Nat.blt_eq]; simp only [hf]; have h2' : (m : Int) < 9223372036854775808 := h2; omega
    simp only [this, cond_true]
  | negSucc m =>
    have : Nat.blt m (hf .i64) = true := by rw [Nat.blt_eq]; simp only [hf]; have : -9223372036854775808 ≤ Int.negSucc m := h1; omega
    simp only [sgn, this, cond_true]
theorem true_eq_ite {P Q : Prop} : (if true = true then P else Q) = P := by simp
theorem exists_true {P : Bool → Prop} : (∃ b, true = b ∧ P b) ↔ P true := ⟨fun ⟨b, h1, h2⟩ => by rw [h1]; exact h2, fun h => ⟨true, rfl, h⟩⟩
theorem exists_some {α : Type} {a : α} {P : α → Prop} : (∃ b, some a = some b ∧ P b) ↔ P a := ⟨fun ⟨b, h1, h2⟩ => by cases h1; exact h2, fun h => ⟨a, rfl, h⟩⟩
theorem exists_bool {a : Bool} {P : Bool → Prop} : (∃ t, Value.bool a = Value.bool t ∧ P t) ↔ P a := ⟨fun ⟨b, h1, h2⟩ => by cases h1; exact h2, fun h => ⟨a, rfl, h⟩⟩
end Go.Ab
namespace Go.Ab
theorem argR_zero {v : Value} {l : List Value} : argR (v :: l) 0 = v := rfl
theorem argR_succ {v : Value} {l : List Value} {i : Nat} : argR (v :: l) (i + 1) = argR l i := rfl
end Go.Ab
namespace Go.Ab
section
variable {l : Loc}
theorem c_int {k : IntKind} {n : Int} : l.ev (.const (.int k n)) = .int k n := rfl
theorem c_bool {b : Bool} : l.ev (.const (.bool b)) = .bool b := rfl
theorem c_string {s : ByteArray} : l.ev (.const (.string s)) = .string s := rfl
theorem c_nilp : l.ev (.const (.pointer none)) = .pointer none := rfl
theorem c_nils : l.ev (.const (.slice none 0 0)) = .slice none 0 0 := rfl
theorem c_nilm : l.ev (.const (.map none)) = .map none := rfl
theorem c_nilf : l.ev (.const .nilFunc) = .nilFunc := rfl
theorem c_nili : l.ev (.const .nilIface) = .nilIface := rfl
end
end Go.Ab
namespace Go.Ab
def one1 : Option (List Value) → Option Value
  | some [v] => some v
  | _ => none
theorem one1_some {v : Value} : one1 (some [v]) = some v := rfl
theorem loadV_flat {E : Env} {h : Hp} {t : TypeId} {b o : Nat} {s : Option Nat} (ht : E.agg t = some false) : loadV E h t (.pointer (some ⟨b, o, s⟩)) = one1 (h.load b o 1) := by
  simp only [loadV, ht]
  unfold one1
  rfl
theorem loadV_ptr {E : Env} {h : Hp} {t : TypeId} {b : Nat} (ht : E.agg t = some false) : loadV E h t (ptrTo b) = one1 (h.load b 0 1) := loadV_flat ht
end Go.Ab
namespace Go.Ab
/-! ### guards, new blocks, function values -/
def gv (want : Bool) : Option Value → Option Bool
  | some (.bool b) => some (bif b then want else !want)
  | some (.tuple _) => some false
  | _ => none
noncomputable def gj (want : Bool) (rg : Tr Value) : Option Oper → Option Bool
  | none => some false
  | some o => match o.dst with
    | none => some false
    | some d => gv want (rg.get d)
theorem guard_some {a : List Oper} {rg : Tr Value} {d : Option Tmp} {op : Op} {t : TypeId} {p : String} {af : Array Edge} {j : Nat} {want : Bool} : guardOk a rg ⟨d, op, t, p, af, some (j, want)⟩ = gj want rg (a[j]?) := by
  simp only [guardOk, gj]
  cases a[j]? with
  | none => rfl
  | some o =>
    simp only []
    cases o.dst with
    | none => rfl
    | some d =>
      simp only [gv]
      cases rg.get d with
      | none => rfl
      | some v => cases v <;> rfl
theorem gj_some {want : Bool} {rg : Tr Value} {d : Tmp} {op : Op} {t : TypeId} {p : String} {af : Array Edge} {g : Option (Nat × Bool)} : gj want rg (some ⟨some d, op, t, p, af, g⟩) = gv want (rg.get d) := rfl
theorem gv_true {b : Bool} : gv true (some (.bool b)) = some b := by cases b <;> rfl
theorem gv_false {b : Bool} : gv false (some (.bool b)) = some (!b) := by cases b <;> rfl
theorem gv_tuple {want : Bool} {x : Array Value} : gv want (some (.tuple x)) = some false := rfl
theorem u_not {b : Bool} : unP .not (.bool b) = some (.bool (!b)) := rfl
theorem stepN_call {E : Env} {K : Value → Hp → Prop} {f : FuncId} {args : List Value} {h : Hp} : StepN E K (some (.call f args, h)) ↔ CallQ E f args none h fun x _ h'' => match x with
    | .ret v => K v h''
    | .pan _ => False := Iff.rfl
theorem target_fn {g : FuncId} {a b : Array Value} {args : List Value} : target (.func (.func g) a b) args = some (.call g (a.toList ++ args ++ b.toList)) := rfl
theorem n_new {h : Hp} {x : Blk} : (h.new x).n = h.n + 1 := rfl
theorem callq_ret {E : Env} {f : FuncId} {args : List Value} {h : Hp} {P : Out → Option (Value × Bool) → Hp → Prop} {Q : Value → Hp → Prop} (hr : Ret E f args h Q) (hk : ∀ v h', Q v h' → P (.ret v) none h') : CallQ E f args none h P := by
  obtain ⟨v, h', a, b⟩ := hr
  exact ⟨_, _, _, a, hk v h' b⟩
/-- A call that leaves the heap but for new blocks, and answers v. -/
def Pure (E : Env) (f : FuncId) (args : List Value) (h : Hp) (v : Value) : Prop := Ret E f args h fun v' h' => v' = v ∧ Gr h h'
theorem callq_pure {E : Env} {f : FuncId} {args : List Value} {h : Hp} {v : Value} {P : Out → Option (Value × Bool) → Hp → Prop} (hr : Pure E f args h v) (hk : ∀ h', Gr h h' → P (.ret v) none h') : CallQ E f args none h P :=
  callq_ret hr fun v' h' ⟨e, g⟩ => by rw [e]; exact hk h' g
end Go.Ab
namespace Go.Ab
/-! ### loops, lengths, places -/
theorem run_unroll {E : Env} {cx : Cx} {Q : Post} {k : List Fr} {l : Loc} {h : Hp} {b : Code} : Run E (lim E) cx Q (.code (.loop b) :: k) .normal l h ↔ Run E (lim E) cx Q (.code b :: .code (.loop b) :: k) .normal l h := by
  rw [← run_seq]
  simp only [Run]
  have : codeStep E (lim E) cx (.loop b) l h = codeStep E (lim E) cx (.seq b (.loop b)) l h := by
    simp only [codeStep]
    cases codeStep E (lim E) cx b l h with
    | none => rfl
    | some q =>
      obtain ⟨e, l', h'⟩ := q
      cases e with
      | normal => show (lim E).code cx (.loop b) l' h' = _; rw [code_eq]; rfl
      | exit i => rfl
      | ret => rfl
      | pan v => rfl
  rw [this]
def lenK (r : Option (ANext × Hp)) (h : Hp) : Option Value → Option (ANext × Hp)
  | some v => some (.val v, h)
  | none => r
theorem lenK_some {r : Option (ANext × Hp)} {h : Hp} {v : Value} : lenK r h (some v) = some (.val v, h) := rfl
theorem o_lenK {E : Env} {ρ : Operand → Value} {h : Hp} {x : Operand} {t : TypeId} : aop E ρ h (.call ⟨.builtin .len, #[x], #[t]⟩) = lenK (match ρ x with
          | .map (some r) => match h.get r with
            | some (.map es _) => match E.und t with
                | some (.map _ _) => some (.val (.int .i64 (.ofNat es.length)), h)
                | _ => none
            | _ => none
          | _ => none) h (lenP E t (ρ x)) := by
  simp only [aop, pop]
  cases lenP E t (ρ x) with
  | some v => rfl
  | none =>
    simp only [lenK]
    cases ρ x <;> rfl
theorem natOf_nn {i : Int} (h : 0 ≤ i) : natOf i = some i.toNat := by
  cases i with
  | ofNat n => rfl
  | negSucc n => exact absurd h (by simp)
theorem idxP_in {k : IntKind} {i : Int} {n : Nat} (h0 : 0 ≤ i) (h1 : i < n) : idxP (.int k i) n = some i.toNat := by
  simp only [idxP, natOf_nn h0]
  have : Nat.blt i.toNat n = true := by rw [Nat.blt_eq]; omega
  rw [this]; rfl
theorem idxP_nat {k : IntKind} {i n : Nat} (h1 : i < n) : idxP (.int k (i : Int)) n = some i := by
  rw [idxP_in (Int.natCast_nonneg i) (by omega)]; simp
theorem ia_slice {E : Env} {t e : TypeId} {k : Nat} {a : Addr} {n c : Nat} {v : Value} (hu : E.und t = some (.slice e)) (hs : E.sz e = some k) : indexAddrP E t (.slice (some a) n c) v = (idxP v n).map fun i => .pointer (some (addrAdd a (i * k))) := by
  simp only [indexAddrP, hu, hs]
  cases idxP v n <;> rfl
theorem ia_array {E : Env} {t e : TypeId} {m k : Nat} {a : Addr} {v : Value} (hu : E.und t = some (.array m e)) (hs : E.sz e = some k) : indexAddrP E t (.pointer (some a)) v = (idxP v m).map fun i => .pointer (some (addrAdd a (i * k))) := by
  simp only [indexAddrP, hu, hs]
  cases idxP v m <;> rfl
theorem bs_ints {E : Env} {h : Hp} {t e : TypeId} {z : Value} {k0 k1 : IntKind} {a b : Int} (hu : E.und t = some (.slice e)) (hs : E.sz e = some 1) (hz : E.zero e = some [z]) :
    buildSliceV E h t 2 [(0, .int k0 a), (1, .int k1 b)] = some (h.new (.cells (Tr.ofList [.int k0 a, .int k1 b]) [Value.int k0 a, .int k1 b].length e 1), .slice (some ⟨h.n, 0, none⟩) 2 2) := by
  unfold buildSliceV
  simp only [hu, hs, hz]
  rfl
theorem load_new {h : Hp} (ok : h.t.Sized h.n) {l : List Value} {e md o n : Nat} (hn : o + n ≤ l.length) : (h.new (.cells (Tr.ofList l) l.length e md)).load h.n o n = some ((l.drop o).take n) := (row_new ok l e md).load hn
theorem load_old {h : Hp} (ok : h.t.Sized h.n) {x : Blk} {b o n : Nat} (hb : b < h.n) : (h.new x).load b o n = h.load b o n := by
  unfold Hp.load
  rw [h.get_new x ok, if_neg (by omega)]
end Go.Ab
namespace Go.Ab
theorem step_pure {E : Env} {cx : Cx} {o : Oper} {l : Loc} {K : Ex → Loc → Hp → Prop} {h : Hp} {f : FuncId} {args : List Value} {v : Value} (hr : Pure E f args h v) (hk : ∀ h', Gr h h' → K .normal (l.put o.dst v) h') : StepR E cx o l K (some (.call f args, h)) :=
  step_ret hr fun v' h' ⟨e, g⟩ => by rw [e]; exact hk h' g
theorem stepN_pure {E : Env} {K : Value → Hp → Prop} {f : FuncId} {args : List Value} {h : Hp} {v : Value} (hr : Pure E f args h v) (hk : ∀ h', Gr h h' → K v h') : StepN E K (some (.call f args, h)) :=
  stepN_ret hr fun v' h' ⟨e, g⟩ => by rw [e]; exact hk h' g
theorem Pure.of {E : Env} {f : FuncId} {args : List Value} {h : Hp} {v : Value} (hr : Ret E f args h fun v' h' => v' = v ∧ Gr h h') : Pure E f args h v := hr
end Go.Ab
namespace Go.Ab
/-! ### steps whose branches are not looked into before their tests are known -/
section
variable (E : Env) (cx : Cx) (Q : Post)
def GStep (a : List Oper) (o : Oper) (os : List Oper) (k : List Fr) (l : Loc) (h : Hp) : Option Bool → Prop
  | some true => StepR E cx o l (fun e l' h' => Run E (lim E) cx Q (.ops a os :: k) e l' h') (aop E l.ev h o.op)
  | some false => Run E (lim E) cx Q (.ops a os :: k) .normal (l.put o.dst (.tuple #[])) h
  | none => False
def CStep (a b : Code) (k : List Fr) (l : Loc) (h : Hp) : Value → Prop
  | .bool true => Run E (lim E) cx Q (.code a :: k) .normal l h
  | .bool false => Run E (lim E) cx Q (.code b :: k) .normal l h
  | _ => False
def DStepQ (a : List Oper) (q : Nat) (ps : List (Nat × Nat)) (o : Oper) (os : List Oper) (i : Nat) (tr : List (Nat × Tch)) (k : List Fr) (l : Loc) (h : Hp) : Option Bool → Bool → Prop
  | some true, false => StepN E (fun v h' => Run E (lim E) cx Q (.opsD a q ps os (i + 1) (noted i tr (noteOf l.ev false o.op h h')) :: k) .normal (l.put o.dst v) h') (aop E l.ev h o.op)
  | some true, true => StepN E (fun v h' => Nat.ble h.n h'.lo = true ∧ Run E (lim E) cx Q (.opsD a q ps os (i + 1) (noted i tr (noteOf l.ev true o.op h h)) :: k) .normal (l.put o.dst v) { h' with lo := h.lo }) (aop E l.ev { h with lo := h.n } o.op)
  | some false, _ => Run E (lim E) cx Q (.opsD a q ps os (i + 1) tr :: k) .normal (l.put o.dst (.tuple #[])) h
  | none, _ => False
end
section
variable {E : Env} {cx : Cx} {Q : Post} {k : List Fr} {l : Loc} {h : Hp}
theorem r_ops {a os : List Oper} {o : Oper} : Run E (lim E) cx Q (.ops a (o :: os) :: k) .normal l h ↔ GStep E cx Q a o os k l h (guardOk a l.regs o) := by
  rw [run_ops_cons]
  cases guardOk a l.regs o with
  | none => exact ⟨fun ⟨_, e, _⟩ => (by cases e), fun h => h.elim⟩
  | some b =>
    rw [exists_some]
    cases b with
    | true => rw [if_pos rfl]; exact then_step
    | false => rw [if_neg (by simp)]; exact Iff.rfl
theorem g_true {a os : List Oper} {o : Oper} : GStep E cx Q a o os k l h (some true) ↔ StepR E cx o l (fun e l' h' => Run E (lim E) cx Q (.ops a os :: k) e l' h') (aop E l.ev h o.op) := Iff.rfl
theorem g_false {a os : List Oper} {o : Oper} : GStep E cx Q a o os k l h (some false) ↔ Run E (lim E) cx Q (.ops a os :: k) .normal (l.put o.dst (.tuple #[])) h := Iff.rfl
theorem r_cond {c : Operand} {a b : Code} : Run E (lim E) cx Q (.code (.cond c a b) :: k) .normal l h ↔ CStep E cx Q a b k l h (l.ev c) := by
  rw [run_cond]
  cases l.ev c <;> (try (exact ⟨fun ⟨_, e, _⟩ => (by cases e), fun h => h.elim⟩))
  rename_i t
  rw [exists_bool]
  cases t with
  | true => rw [if_pos rfl]; exact Iff.rfl
  | false => rw [if_neg (by simp)]; exact Iff.rfl
theorem c_true {a b : Code} : CStep E cx Q a b k l h (.bool true) ↔ Run E (lim E) cx Q (.code a :: k) .normal l h := Iff.rfl
theorem c_false {a b : Code} : CStep E cx Q a b k l h (.bool false) ↔ Run E (lim E) cx Q (.code b :: k) .normal l h := Iff.rfl
theorem r_opsD {a os : List Oper} {o : Oper} {q i : Nat} {ps : List (Nat × Nat)} {tr : List (Nat × Tch)} : Run E (lim E) cx Q (.opsD a q ps (o :: os) i tr :: k) .normal l h ↔ DStepQ E cx Q a q ps o os i tr k l h (guardOk a l.regs o) (hush E q i o.op) := by
  rw [run_opsD]
  cases guardOk a l.regs o with
  | none => exact ⟨fun ⟨_, e, _⟩ => (by cases e), fun h => h.elim⟩
  | some b =>
    rw [exists_some]
    cases b with
    | true =>
      rw [if_pos rfl]
      cases hush E q i o.op with
      | true => rw [if_pos rfl]; exact Iff.rfl
      | false => rw [if_neg (by simp)]; exact Iff.rfl
    | false => rw [if_neg (by simp)]; exact Iff.rfl
theorem d_loud {a os : List Oper} {o : Oper} {q i : Nat} {ps : List (Nat × Nat)} {tr : List (Nat × Tch)} : DStepQ E cx Q a q ps o os i tr k l h (some true) false ↔ StepN E (fun v h' => Run E (lim E) cx Q (.opsD a q ps os (i + 1) (noted i tr (noteOf l.ev false o.op h h')) :: k) .normal (l.put o.dst v) h') (aop E l.ev h o.op) := Iff.rfl
theorem d_quiet {a os : List Oper} {o : Oper} {q i : Nat} {ps : List (Nat × Nat)} {tr : List (Nat × Tch)} : DStepQ E cx Q a q ps o os i tr k l h (some true) true ↔ StepN E (fun v h' => Nat.ble h.n h'.lo = true ∧ Run E (lim E) cx Q (.opsD a q ps os (i + 1) (noted i tr (noteOf l.ev true o.op h h)) :: k) .normal (l.put o.dst v) { h' with lo := h.lo }) (aop E l.ev { h with lo := h.n } o.op) := Iff.rfl
theorem d_skip {a os : List Oper} {o : Oper} {q i : Nat} {ps : List (Nat × Nat)} {tr : List (Nat × Tch)} {b : Bool} : DStepQ E cx Q a q ps o os i tr k l h (some false) b ↔ Run E (lim E) cx Q (.opsD a q ps os (i + 1) tr :: k) .normal (l.put o.dst (.tuple #[])) h := Iff.rfl
theorem noted_none {i : Nat} {tr : List (Nat × Tch)} : noted i tr none = tr := rfl
theorem noted_some {i : Nat} {b : Tch} {tr : List (Nat × Tch)} : noted i tr (some b) = (i, b) :: tr := rfl
theorem pairs_nil {tr : List (Nat × Tch)} : pairsOk tr [] = true := rfl
theorem guard_no {a : List Oper} {rg : Tr Value} {d : Option Tmp} {op : Op} {t : TypeId} {p : String} {af : Array Edge} : guardOk a rg ⟨d, op, t, p, af, none⟩ = some true := rfl
end
end Go.Ab
namespace Go.Ab
theorem b_eqlB {E : Env} {t : TypeId} {x y : Operand} {a b : Bool} (hu : E.und t = some .bool) : binP E .eql t x y (.bool a) (.bool b) = some (.bool (bif a then b else !b)) := by
  simp [binP, eqTop, eqIn, hu]
theorem b_neqB {E : Env} {t : TypeId} {x y : Operand} {a b : Bool} (hu : E.und t = some .bool) : binP E .neq t x y (.bool a) (.bool b) = some (.bool (!(bif a then b else !b))) := by
  simp [binP, eqTop, eqIn, hu]
theorem same_bool {d : Bool} : (bif d then d else !d) = true := by cases d <;> rfl
end Go.Ab
namespace Go.Ab
/-! ### new blocks, by their rows -/
noncomputable def boxR (h : Hp) (t : TypeId) : Value → Option (ANext × Hp)
  | .chan _ => none
  | v => some (.val (ptrTo h.n), h.new (.cells (Tr.ofList (vcells v)) (vcells v).length t 1))
theorem o_boxR {E : Env} {ρ : Operand → Value} {h : Hp} {t : TypeId} {x : Operand} : aop E ρ h (.box t x) = boxR h t (ρ x) := by
  simp only [aop]; cases ρ x <;> rfl
noncomputable def allocR (h : Hp) (t : TypeId) : Option (List Value) → Option (ANext × Hp)
  | none => none
  | some z => some (.val (ptrTo h.n), h.new (.cells (Tr.ofList z) z.length t 1))
theorem o_allocR {E : Env} {ρ : Operand → Value} {h : Hp} {t : TypeId} : aop E ρ h (.alloc t) = allocR h t (E.zero t) := by
  simp only [aop]; cases E.zero t <;> rfl
section
variable {E : Env} {cx : Cx} {o : Oper} {l : Loc} {K : Ex → Loc → Hp → Prop} {h : Hp}
theorem row_new' {h : Hp} (ok : h.t.Sized h.n) (l : List Value) (t : TypeId) : Gr h (h.new (.cells (Tr.ofList l) l.length t 1)) ∧ Row (h.new (.cells (Tr.ofList l) l.length t 1)) h.n l 1 := ⟨Gr.new ok _, row_new ok l t 1⟩
theorem step_box {v : Value} {t : TypeId} (ok : h.t.Sized h.n) (hv : ∀ x, v ≠ .chan x) (hk : ∀ h' b, Gr h h' → Row h' b (vcells v) 1 → h.n ≤ b → h'.n = b + 1 → K .normal (l.put o.dst (ptrTo b)) h') : StepR E cx o l K (boxR h t v) := by
  have := hk _ _ (row_new' ok (vcells v) t).1 (row_new' ok (vcells v) t).2 (Nat.le_refl _) rfl
  cases v <;> first | exact this | exact absurd rfl (hv _)
theorem step_alloc {z : List Value} {t : TypeId} (ok : h.t.Sized h.n) (hk : ∀ h' b, Gr h h' → Row h' b z 1 → h.n ≤ b → h'.n = b + 1 → K .normal (l.put o.dst (ptrTo b)) h') : StepR E cx o l K (allocR h t (some z)) :=
  hk _ _ (row_new' ok z t).1 (row_new' ok z t).2 (Nat.le_refl _) rfl
theorem stepN_box {KN : Value → Hp → Prop} {v : Value} {t : TypeId} (ok : h.t.Sized h.n) (hv : ∀ x, v ≠ .chan x) (hk : ∀ h' b, Gr h h' → Row h' b (vcells v) 1 → h.n ≤ b → h'.n = b + 1 → KN (ptrTo b) h') : StepN E KN (boxR h t v) := by
  have := hk _ _ (row_new' ok (vcells v) t).1 (row_new' ok (vcells v) t).2 (Nat.le_refl _) rfl
  cases v <;> first | exact this | exact absurd rfl (hv _)
theorem hoist_no {ops : List Oper} (h : ((ops.any isFree || lateOn ops) && ops.all (guardIn ops.length)) = false) : hoist ops = ops := by unfold hoist; rw [h]; rfl
theorem draw_step {Q : Post} {k : List Fr} {id : Nat} {ops : Array Oper} {q : Nat} {ps : List (Nat × Nat)} {os : List Oper} (hh : hoist ops.toList = os) (hp : plan E os = some (q, ps)) (hr : Run E (lim E) cx Q (.opsD os q ps os 0 [] :: k) .normal l h) (hct : E.cut cx.fn = false := by rfl) : Run E (lim E) cx Q (.code (.region id ops true) :: k) .normal l h := (run_draw hct hh hp).2 hr
theorem fork_step {Q : Post} {k : List Fr} {id : Nat} {ops : Array Oper} {q : Nat} {ps : List (Nat × Nat)} {os : List Oper} {t : Tmp} (hh : hoist ops.toList = os) (ht : forkT E os (mkPos os) = some t) (hp : forkP E os = some (q, ps))
    (hr : Run E (lim E) cx Q (.opsD os q ps os 0 [] :: .kill t :: k) .normal l h) (hct : E.cut cx.fn = true := by rfl) : Run E (lim E) cx Q (.code (.region id ops true) :: k) .normal l h := run_fork hct hh ht hp hr
theorem midL_yes {ops os : List Oper} {ord : List Nat} (h : ordM ops = ord) (hp : pickL ops ord ord = os) : midL ops = os := by unfold midL; rw [h, hp]
theorem mid_step {Q : Post} {k : List Fr} {id : Nat} {ops : Array Oper} {q : Nat} {ps : List (Nat × Nat)} {os : List Oper} {n : Nat} (hm : midL ops.toList = os) (hn : callAt os = n) (hok : midOk E os n = true) (hp : plan E os = some (q, ps)) (hq : Nat.testBit q n = false)
    (hr : Run E (lim E) cx Q (.opsD os q ps os 0 [] :: k) .normal l h) (hct : E.cut cx.fn = true := by rfl) (hf : forkOk E ops.toList = false := by rfl) (hs : midOn E ops.toList = true := by rfl) : Run E (lim E) cx Q (.code (.region id ops true) :: k) .normal l h := run_mid hct hf hs hm hn hok hp hq hr
theorem midP_step {Q : Post} {k : List Fr} {id : Nat} {ops : Array Oper} {q : Nat} {ps : List (Nat × Nat)} {os os1 : List Oper} {n : Nat} {c : Oper} (hm : midL ops.toList = os) (hn : callAt os = n) (hp : plan E os = some (q, ps)) (hq : Nat.testBit q n = false) (hc : os[n]? = some c) (h1 : os.take n = os1)
    (hr : Run E (lim E) cx Q (.opsD os q [] os1 0 [] :: .midP c os l :: k) .normal l h) (hct : E.cut cx.fn = true := by rfl) (hf : forkOk E ops.toList = false := by rfl) (hs : midOn E ops.toList = true := by rfl) : Run E (lim E) cx Q (.code (.region id ops true) :: k) .normal l h := by
  subst h1; exact run_midP hct hf hs hm hn hp hq hc hr
theorem split_step {Q : Post} {k : List Fr} {id : Nat} {ops : Array Oper} {q : Nat} {ps : List (Nat × Nat)} {os : List Oper} (hs : splitOk ops.toList (ops.toList.length - 1) = true) {n : Nat} (hc : cutN ops.toList = n) (hh : hoist (ops.toList.take n) = os) (hp : plan E os = some (q, ps))
    (hr : Run E (lim E) cx Q (.opsD os q ps os 0 [] :: .ops ops.toList (ops.toList.drop n) :: k) .normal l h) (hct : E.cut cx.fn = true := by rfl) (hf : forkOk E ops.toList = false := by rfl) (hmo : midOn E ops.toList = false := by rfl) : Run E (lim E) cx Q (.code (.region id ops true) :: k) .normal l h := run_split hct hs hf hmo hc hh hp hr
end
theorem b_shr1 {E : Env} {t : TypeId} {x y : Operand} {k k' : IntKind} {m : Int} (hm : 0 ≤ m) : binP E .shr t x y (.int k m) (.int k' 1) = some (.int k (m / 2)) := by
  have hb : Nat.ble 1 (bitsOf k) = true := by cases k <;> rfl
  have h1 : natOf 1 = some 1 := rfl
  simp only [binP, shiftI, h1, hb, cond_true, Option.map_some]
  cases m with
  | ofNat n => rfl
  | negSucc n => exact absurd hm (by simp)
theorem quiet_ok {h h' : Hp} (g : Gr { h with lo := h.n } h') : Nat.ble h.n h'.lo = true := g.hlo
theorem ok_lo {h : Hp} (ok : h.t.Sized h.n) (x : Nat) : ({ h with lo := x } : Hp).t.Sized ({ h with lo := x } : Hp).n := ok
theorem gr_lo {h h' : Hp} (g : Gr { h with lo := h.n } h') : Gr h { h' with lo := h.lo } :=
  ⟨g.ok0, g.ok, g.n, g.get, fun _ _ h => h⟩
end Go.Ab
namespace Go.Ab
theorem hush_s {E : Env} {q i : Nat} {op : Op} : hush E q i op = (decide (q / 2 ^ i % 2 = 1) && decide (3 ≤ cls E op)) := by
  unfold hush
  rw [Nat.testBit_eq_decide_div_mod_eq, nble_eq]
end Go.Ab
namespace Go.Ab
theorem stepN_quiet {E : Env} {K : Value → Hp → Prop} {f : FuncId} {args : List Value} {h : Hp} {v : Value} (hr : Pure E f args { h with lo := h.n } v) (hk : ∀ h', Gr h h' → K v h') :
    StepN E (fun v h' => Nat.ble h.n h'.lo = true ∧ K v { h' with lo := h.lo }) (some (.call f args, { h with lo := h.n })) :=
  stepN_pure hr fun h' g => ⟨quiet_ok g, hk _ (gr_lo g)⟩
end Go.Ab
namespace Go.Ab
section
variable (E : Env) (cx : Cx) (Q : Post) (a : List Oper) (q : Nat) (ps : List (Nat × Nat)) (o : Oper) (os : List Oper) (i : Nat) (k : List Fr) (l : Loc)
def DN (tr : Hp → List (Nat × Tch)) (x : Option (ANext × Hp)) : Prop := StepN E (fun v h' => Run E (lim E) cx Q (.opsD a q ps os (i + 1) (tr h') :: k) .normal (l.put o.dst v) h') x
/-- The call of a region that panics. -/
def MP (all : List Oper) (l0 : Loc) (x : Option (ANext × Hp)) : Prop := ∃ v h', opVal E (lim E) x = some (.pan v, h') ∧ Run E (lim E) cx Q k (.pan v) (panL all l0) h'
def DQ (h : Hp) (tr : List (Nat × Tch)) (x : Option (ANext × Hp)) : Prop := StepN E (fun v h' => Nat.ble h.n h'.lo = true ∧ Run E (lim E) cx Q (.opsD a q ps os (i + 1) tr :: k) .normal (l.put o.dst v) { h' with lo := h.lo }) x
end
section
variable {E : Env} {cx : Cx} {Q : Post} {a : List Oper} {q : Nat} {ps : List (Nat × Nat)} {o : Oper} {os : List Oper} {i : Nat} {k : List Fr} {l : Loc} {h : Hp} {tr : List (Nat × Tch)} {tf : Hp → List (Nat × Tch)}
theorem run_mp {l0 : Loc} {all : List Oper} : Run E (lim E) cx Q (.midP o all l0 :: k) .normal l h ↔ MP E cx Q k all l0 (aop E l.ev h o.op) := by
  show (∃ v h', opVal E (lim E) (aop E (l.evD (tmpsOf o.op.operands.toList)) h o.op) = some (.pan v, h') ∧ Run E (lim E) cx Q k (.pan v) (panL all l0) h') ↔ _
  rw [aop_ext (evD_own l o.op)]; rfl
theorem mp_pan {l0 : Loc} {all : List Oper} {f : FuncId} {args : List Value} {P : Out → Option (Value × Bool) → Hp → Prop} (hr : CallQ E f args none h P) (hk : ∀ x rc h', P x rc h' → ∃ v, x = .pan v ∧ Run E (lim E) cx Q k (.pan v) (panL all l0) h') : MP E cx Q k all l0 (some (.call f args, h)) := by
  obtain ⟨x, rc, h', a, b⟩ := hr
  obtain ⟨v, rfl, r⟩ := hk x rc h' b
  refine ⟨v, h', ?_, r⟩
  simp only [opVal, a]
theorem dn_loud : DStepQ E cx Q a q ps o os i tr k l h (some true) false ↔ DN E cx Q a q ps o os i k l (fun h' => noted i tr (noteOf l.ev false o.op h h')) (aop E l.ev h o.op) := Iff.rfl
theorem dn_quiet : DStepQ E cx Q a q ps o os i tr k l h (some true) true ↔ DQ E cx Q a q ps o os i k l h (noted i tr (noteOf l.ev true o.op h h)) (aop E l.ev { h with lo := h.n } o.op) := Iff.rfl
theorem dn_val {v : Value} {h' : Hp} : DN E cx Q a q ps o os i k l tf (some (.val v, h')) ↔ Run E (lim E) cx Q (.opsD a q ps os (i + 1) (tf h') :: k) .normal (l.put o.dst v) h' := Iff.rfl
theorem dn_skip {h' : Hp} : DN E cx Q a q ps o os i k l tf (some (.skip, h')) ↔ Run E (lim E) cx Q (.opsD a q ps os (i + 1) (tf h') :: k) .normal (l.put o.dst (.tuple #[])) h' := Iff.rfl
theorem dn_ret {f : FuncId} {args : List Value} {P : Value → Hp → Prop} (hr : Ret E f args h P) (hk : ∀ v h', P v h' → Run E (lim E) cx Q (.opsD a q ps os (i + 1) (tf h') :: k) .normal (l.put o.dst v) h') : DN E cx Q a q ps o os i k l tf (some (.call f args, h)) := stepN_ret hr hk
theorem dn_pure {f : FuncId} {args : List Value} {v : Value} (hr : Pure E f args h v) (hk : ∀ h', Gr h h' → Run E (lim E) cx Q (.opsD a q ps os (i + 1) (tf h') :: k) .normal (l.put o.dst v) h') : DN E cx Q a q ps o os i k l tf (some (.call f args, h)) := stepN_pure hr hk
theorem dq_pure {f : FuncId} {args : List Value} {v : Value} (hr : Pure E f args { h with lo := h.n } v) (hk : ∀ h', Gr h h' → Run E (lim E) cx Q (.opsD a q ps os (i + 1) tr :: k) .normal (l.put o.dst v) h') : DQ E cx Q a q ps o os i k l h tr (some (.call f args, { h with lo := h.n })) := stepN_quiet hr hk
theorem dq_ret {f : FuncId} {args : List Value} {P : Value → Hp → Prop} (hr : Ret E f args { h with lo := h.n } fun v h' => Gr { h with lo := h.n } h' ∧ P v { h' with lo := h.lo }) (hk : ∀ v h', Gr h h' → P v h' → Run E (lim E) cx Q (.opsD a q ps os (i + 1) tr :: k) .normal (l.put o.dst v) h') : DQ E cx Q a q ps o os i k l h tr (some (.call f args, { h with lo := h.n })) :=
  stepN_ret hr fun v h' ⟨g, p⟩ => ⟨quiet_ok g, hk v _ (gr_lo g) p⟩
theorem dq_box {v : Value} {t : TypeId} (ok : h.t.Sized h.n) (hv : ∀ x, v ≠ .chan x) (hk : ∀ h' b, Gr h h' → Row h' b (vcells v) 1 → h.n ≤ b → h'.n = b + 1 → Run E (lim E) cx Q (.opsD a q ps os (i + 1) tr :: k) .normal (l.put o.dst (ptrTo b)) h') : DQ E cx Q a q ps o os i k l h tr (boxR { h with lo := h.n } t v) := by
  refine stepN_box (h := { h with lo := h.n }) ok hv fun h' b g r h1 h2 => ⟨quiet_ok g, hk _ b (gr_lo g) ?_ h1 h2⟩
  obtain ⟨t, el, x, y, z⟩ := r
  exact ⟨t, el, x, y, z⟩
end
end Go.Ab
namespace Go.Ab
theorem ptr_eq {b : Nat} : ptrTo b = .pointer (some ⟨b, 0, none⟩) := rfl
end Go.Ab

/- From a run of the evaluator to a law. -/
namespace Go.Ab
open Go.ChangeShapes Go.WideShapes Go.RowKit

theorem len3 {α : Type} {l : List α} (h : l.length = 3) : ∃ a b c, l = [a, b, c] := by
  match l, h with
  | [a, b, c], _ => exact ⟨a, b, c, rfl⟩
theorem len4 {α : Type} {l : List α} (h : l.length = 4) : ∃ a b c d, l = [a, b, c, d] := by
  match l, h with
  | [a, b, c, d], _ => exact ⟨a, b, c, d, rfl⟩
theorem len2 {α : Type} {l : List α} (h : l.length = 2) : ∃ a b, l = [a, b] := by
  match l, h with
  | [a, b], _ => exact ⟨a, b, rfl⟩
theorem below_of_ext {w w' : World} {mu' : Mu} {h' : Hp} (e : Ext mu0 hp0 w mu' h' w') : Below w.heap.size w w' :=
  ⟨e.os, e.tape, e.output, e.wsize, fun c hc => e.frame c hc (by intro b base top h; unfold mu0 at h; split at h <;> cases h)⟩
theorem hp0_ok : hp0.t.Sized hp0.n := (hrel0 default).sized

/-- The model follows a run that leaves old memory alone. -/
theorem calls_pure {E : Env} {P : Program} (ok : EOk E P) {f : FuncId} {args : List Value} {args' : Array Value} (ha : VL mu0 args args'.toList) (hr : Pure E f args hp0 (.bool true)) (w : World) :
    Calls P f args' w fun e w' => e = .returned (.bool true) ∧ Below w.heap.size w w' := by
  obtain ⟨v, h', hl, rfl, g⟩ := hr
  intro cs
  obtain ⟨_, h1⟩ := lim_ok ok _ _ _ _ _ _ _ hl
  obtain ⟨mu', w', rcC', fr, k1, k2, k3, k4, k5, k6, k7⟩ := h1 mu0 w args' none cs .normal (hrel0 w) glob0 ha trivial (.inl rfl)
  have := k4.normal
  subst this
  obtain ⟨v', l1, l2⟩ := k6
  cases l2
  obtain ⟨fn, r1, r2⟩ := l1.res
  exact ⟨.returned (.bool true), w', fr, ⟨rfl, below_of_ext k2⟩, k5, k7, l1.mode, l1.defers, l1.kind, fn, r1, r2⟩

section
variable {H : Type} {enc : TypeId × Value → H} {P : Program}
theorem below_trodAll (hl : laidOutB P = true) {W W' : World} (hb : Below W.heap.size W W') : ∀ {ts : List TypeId} {vs : List Value} {ds : List (DataW H)} {ps : List MemPlace}, (ts.all fun t => P.readableRec t && decide (t < P.types.size)) = true →
    DataW.TrodAll enc P W 0 (fun _ => true) true ts vs ds ps → (∀ x ∈ ps, x.block < W.heap.size) → DataW.TrodAll enc P W' 0 (fun b => decide (b < W.heap.size)) true ts vs ds ps
  | [], vs, ds, ps, _, h, _ => by
    obtain ⟨rfl, rfl, rfl⟩ := trodAll_nil h
    exact rfl
  | t :: ts, vs, ds, ps, hts, h, hlt => by
    obtain ⟨v, vs1, d, ds1, p, q, rfl, rfl, rfl, h1, h2⟩ := trodAll_cons h
    simp only [List.all_cons, Bool.and_eq_true, decide_eq_true_eq] at hts
    exact ⟨p, q, Below.trod hl hts.1.1 hts.1.2 h1 hb (fun x hx => hlt x (by simp [hx])), below_trodAll hl hb hts.2 h2 (fun x hx => hlt x (by simp [hx])), rfl⟩
theorem post_of_below {f : Func} {s : ChangeSpec} {apart handsOn : Bool} {W W' : World} {args : Array Value} {ds : List (DataW H)} {before : List MemPlace} {bt : TypeId}
    (hl : laidOutB P = true) (hts : (f.params.toList.all fun t => P.readableRec t && decide (t < P.types.size)) = true) (hv : s.vars = [])
    (hW : DataW.Whole enc P f.params.toList s.vars apart W args.toList ds [] before) (hfn : s.fn H (ds ++ []) = { results := [.lit (.bool true)], args := ds }) (hb : Below W.heap.size W W')
    (hbt : P.underlying bt = some .bool) (hrt : f.resultTypes = #[bt]) :
    s.post enc P f apart true handsOn false W args (.bool true) W' := by
  have hlt := hW.lt
  have hW' := hW
  obtain ⟨p, q, hA, hV, rfl, hz, hn⟩ := hW
  rw [hv] at hV
  obtain ⟨_, rfl⟩ := trodVars_none hV
  refine ⟨ds, [], _, [], p, [], hW', ?_, ?_, ?_, ⟨hb.os, hb.output, fun i hi => ?_⟩, fun h => by cases h⟩
  · rw [hfn, hrt]
    exact trodAll_cons_mk (shut_bool hbt _) trodAll_mk0
  · rw [hfn]
    exact below_trodAll hl hb hts hA (fun x hx => hlt x (by simpa using hx))
  · rw [hfn, hv]; rfl
  · rw [hb.block i hi]
    split
    · rename_i h1 h2; rw [h1] at h2; cases h2; exact ⟨rfl, rfl, rfl, fun _ _ => rfl⟩
    · rename_i h1 h2; rw [h1] at h2; cases h2; exact .inr ⟨rfl, rfl⟩
    · rfl

theorem nums_of {k : IntKind} : ∀ (l : List Value), (∀ i, i < l.length → ∃ z, (l.drop i).take 1 = [.int k z] ∧ (Lit.int k z).wf = true) → ∃ ns : List Int, l = ns.map (.int k) ∧ ∀ x ∈ ns, (Lit.int k x).wf = true
  | [], _ => ⟨[], rfl, fun x hx => by cases hx⟩
  | v :: l, h => by
    obtain ⟨z, h1, h2⟩ := h 0 (by simp)
    obtain ⟨ns, h3, h4⟩ := nums_of l (fun i hi => by have := h (i + 1) (by simp; omega); simpa using this)
    simp at h1
    refine ⟨z :: ns, by rw [h1, h3]; rfl, fun x hx => ?_⟩
    rcases List.mem_cons.1 hx with rfl | hx
    · exact h2
    · exact h4 x hx
theorem bools_of : ∀ (l : List Value), (∀ i, i < l.length → ∃ z, (l.drop i).take 1 = [.bool z]) → ∃ ns : List Bool, l = ns.map .bool
  | [], _ => ⟨[], rfl⟩
  | v :: l, h => by
    obtain ⟨z, h1⟩ := h 0 (by simp)
    obtain ⟨ns, h3⟩ := bools_of l (fun i hi => by have := h (i + 1) (by simp; omega); simpa using this)
    simp at h1
    exact ⟨z :: ns, by rw [h1, h3]; rfl⟩
/-- An array of numbers, opened. -/
theorem open_nums {W : World} {base n : Nat} {t e : TypeId} {k : IntKind} {v : Value} {d : DataW H} {p : List MemPlace} {sp : Nat → Bool} {hd : Bool} (ht : P.underlying t = some (.array n e)) (he : P.underlying e = some (.int k)) (hc : P.cellsOf e = 1) (hn : P.cellsOf t = n)
    (hval : Value.okWide P W .any base t v) (h : DataW.Trod enc P W 0 sp hd t v d p) : ∃ ns : List Int, v = .agg ⟨ns.map (.int k)⟩ ∧ ns.length = n ∧ ∀ x ∈ ns, (Lit.int k x).wf = true := by
  unfold Value.okWide at hval
  rw [ht] at hval
  obtain ⟨cs, rfl, _, _⟩ := hval
  obtain ⟨fuel, h⟩ := h
  obtain ⟨xs, m, rfl, _, hlen, hxl, hel⟩ := DataW.trod_array ht h
  have hl2 : cs.toList.length = n := by rw [← hn]; exact hlen
  obtain ⟨ns, h1, h2⟩ := nums_of cs.toList (fun i hi => by
    have h3 := hel i (by omega)
    rw [hc, Nat.mul_one] at h3
    have h4 : xs[i]? = some xs[i] := List.getElem?_eq_getElem (by omega)
    rw [h4] at h3
    obtain ⟨z, e1, _, e3⟩ := DataW.trod_int he h3
    exact ⟨z, e1, e3⟩)
  refine ⟨ns, ?_, ?_, h2⟩
  · congr 1
    apply Array.ext'
    exact h1
  · have := congrArg List.length h1
    simp at this
    simp at hl2
    omega
theorem open_bools {W : World} {base n : Nat} {t e : TypeId} {v : Value} {d : DataW H} {p : List MemPlace} {sp : Nat → Bool} {hd : Bool} (ht : P.underlying t = some (.array n e)) (he : P.underlying e = some .bool) (hc : P.cellsOf e = 1) (hn : P.cellsOf t = n)
    (hval : Value.okWide P W .any base t v) (h : DataW.Trod enc P W 0 sp hd t v d p) : ∃ ns : List Bool, v = .agg ⟨ns.map .bool⟩ ∧ ns.length = n := by
  unfold Value.okWide at hval
  rw [ht] at hval
  obtain ⟨cs, rfl, _, _⟩ := hval
  obtain ⟨fuel, h⟩ := h
  obtain ⟨xs, m, rfl, _, hlen, hxl, hel⟩ := DataW.trod_array ht h
  have hl2 : cs.toList.length = n := by rw [← hn]; exact hlen
  obtain ⟨ns, h1⟩ := bools_of cs.toList (fun i hi => by
    have h3 := hel i (by omega)
    rw [hc, Nat.mul_one] at h3
    have h4 : xs[i]? = some xs[i] := List.getElem?_eq_getElem (by omega)
    rw [h4] at h3
    obtain ⟨z, e1, _⟩ := DataW.trod_bool he h3
    exact ⟨z, e1⟩)
  refine ⟨ns, ?_, ?_⟩
  · congr 1
    apply Array.ext'
    exact h1
  · have := congrArg List.length h1
    simp at this
    simp at hl2
    omega
theorem vrel_ints (mu : Mu) (k : IntKind) (ns : List Int) : VRel mu (.agg ⟨ns.map (.int k)⟩) (.agg ⟨ns.map (.int k)⟩) := by
  refine .agg rfl fun i v v' h1 h2 => ?_
  rw [h1] at h2; cases h2
  simp only [List.getElem?_map, Option.map_eq_some_iff] at h1
  obtain ⟨a, _, rfl⟩ := h1
  exact .int _ _
theorem vrel_bools (mu : Mu) (ns : List Bool) : VRel mu (.agg ⟨ns.map .bool⟩) (.agg ⟨ns.map .bool⟩) := by
  refine .agg rfl fun i v v' h1 h2 => ?_
  rw [h1] at h2; cases h2
  simp only [List.getElem?_map, Option.map_eq_some_iff] at h1
  obtain ⟨a, _, rfl⟩ := h1
  exact .bool _
end
end Go.Ab

/- The heap at the outset, where arguments lie in memory: the world's own cells, not to be written. -/
namespace Go.Ab
open Go.ChangeShapes Go.WideShapes Go.RowKit
noncomputable section

/-- The number of the variable that holds a type's handle: its block keeps its number. -/
def GV : Nat := 0
def pos (c : Nat) : Nat := if c = GV then GV else c + 16
theorem hand_of {t c o : Nat} (h : c < 65536 ∧ o < 65536) : hand (t * 4294967296 + c * 65536 + o) = .iface t (.agg ⟨[.pointer (some ⟨c, o, none⟩)]⟩) := by
  unfold hand
  rw [show (t * 4294967296 + c * 65536 + o) / 4294967296 = t by omega, show (t * 4294967296 + c * 65536 + o) / 65536 % 65536 = c by omega, show (t * 4294967296 + c * 65536 + o) % 65536 = o by omega]
/-- A cell's value, as the abstract heap has it. -/
def absV (n : Nat) : Value → Value
  | .bool b => .bool b
  | .int k i => .int k i
  | .string s => .string s
  | .pointer none => .pointer none
  | .pointer (some a) => if a.spot = none ∧ a.block < n then .pointer (some ⟨pos a.block, a.off, none⟩) else poison
  | .slice none 0 0 => .slice none 0 0
  | .slice (some a) len cap => if len ≤ cap then (if a.spot = none ∧ a.block < n then .slice (some ⟨pos a.block, a.off, none⟩) len cap else .slice (some ⟨15, 0, none⟩) len cap) else poison
  | .iface t (.agg ⟨[.pointer (some ⟨c, o, none⟩)]⟩) => if c < 65536 ∧ o < 65536 then .chan (some (t * 4294967296 + c * 65536 + o)) else poison
  | _ => poison
/-- An argument. -/
def absA (n : Nat) : Value → Value
  | .agg cs => .agg ⟨cs.toList.map (absV n)⟩
  | v => absV n v
def absO (n : Nat) : Obj → Blk
  | .cells cs _ _ => .cells (Tr.ofList (cs.toList.map (absV n))) (cs.toList.map (absV n)).length 0 0
  | _ => .dead
def hpL (W : World) : List Blk := (List.replicate 16 .dead).set GV ((W.heap[GV]?.map (absO W.heap.size)).getD .dead) ++ (W.heap.toList.map (absO W.heap.size)).set GV .dead
def hpW (W : World) : Hp := { n := 16 + W.heap.size, t := Tr.ofList (hpL W), lo := 16 + W.heap.size }
def ptOf (W : World) (c : Nat) : Pt := match W.heap[c]? with
  | some (.cells cs _ _) => .blk c 0 cs.size
  | some _ => .dead
  | none => .none
def muW (W : World) : Mu := fun b => if b < 16 then (if b = GV ∧ GV < W.heap.size then ptOf W GV else .dead) else if b = GV + 16 ∧ GV < W.heap.size then .dead else ptOf W (b - 16)
theorem gv15 : GV < 15 := by decide
theorem hpL_len (W : World) : (hpL W).length = 16 + W.heap.size := by simp [hpL]
theorem hpW_ok (W : World) : (hpW W).t.Sized (hpW W).n := by
  have h := Tr.sized_ofList (hpL W)
  rw [hpL_len] at h
  exact h
theorem hpL_get (W : World) (b : Nat) : (hpW W).get b = (hpL W)[b]? := Tr.get_ofList _ b
theorem hpL_lo (W : World) {b : Nat} (h : b < 16) : (hpW W).get b = some (if b = GV then (W.heap[GV]?.map (absO W.heap.size)).getD .dead else .dead) := by
  rw [hpL_get, hpL, List.getElem?_append_left (by simpa using h), List.getElem?_set, List.getElem?_replicate]
  have := gv15
  split <;> split <;> simp_all <;> omega
theorem hpL_hi (W : World) (c : Nat) : (hpW W).get (c + 16) = if c = GV then (W.heap[GV]?).map fun _ => .dead else (W.heap[c]?).map (absO W.heap.size) := by
  rw [hpL_get, hpL, List.getElem?_append_right (by simp), List.getElem?_set]
  simp only [List.length_set, List.length_replicate, Nat.add_sub_cancel, List.length_map, Array.length_toList, List.getElem?_map, Array.getElem?_toList]
  by_cases e : GV = c
  · subst e
    rw [if_pos rfl, if_pos rfl]
    by_cases l : GV < W.heap.size
    · rw [if_pos l, Array.getElem?_eq_getElem l]; rfl
    · rw [if_neg l, Array.getElem?_eq_none (by omega)]; rfl
  · rw [if_neg e, if_neg (Ne.symm e)]
theorem hpW_at (W : World) {c : Nat} (h : c < W.heap.size) : (hpW W).get (pos c) = (W.heap[c]?).map (absO W.heap.size) := by
  unfold pos
  split
  · rename_i e
    subst e
    rw [hpL_lo W (by have := gv15; omega), if_pos rfl, Array.getElem?_eq_getElem h]; rfl
  · rename_i e
    rw [hpL_hi, if_neg e]
theorem muW_pos (W : World) {c : Nat} (h : c < W.heap.size) : muW W (pos c) = ptOf W c := by
  have := gv15
  unfold pos muW
  split
  · rename_i e
    subst e
    rw [if_pos (by omega), if_pos ⟨rfl, h⟩]
  · rw [if_neg (by omega), if_neg (by omega)]; rfl
/-- Where a block of the heap stems from. -/
theorem muW_from (W : World) (b : Nat) : (muW W b = .dead ∧ (hpW W).get b = some .dead) ∨ (muW W b = .none) ∨ ∃ c, c < W.heap.size ∧ b = pos c := by
  have := gv15
  by_cases h : b < 16
  · by_cases e : b = GV ∧ GV < W.heap.size
    · exact .inr (.inr ⟨GV, e.2, by rw [e.1]; simp [pos]⟩)
    · refine .inl ⟨by unfold muW; rw [if_pos h, if_neg e], ?_⟩
      rw [hpL_lo W h]
      split
      · rename_i e2
        have : ¬ GV < W.heap.size := fun l => e ⟨e2, l⟩
        rw [Array.getElem?_eq_none (by omega)]; rfl
      · rfl
  · obtain ⟨c, rfl⟩ : ∃ c, b = c + 16 := ⟨b - 16, by omega⟩
    by_cases l : c < W.heap.size
    · by_cases e : c = GV
      · subst e
        refine .inl ⟨by unfold muW; rw [if_neg h, if_pos ⟨rfl, l⟩], ?_⟩
        rw [hpL_hi, if_pos rfl, Array.getElem?_eq_getElem l]; rfl
      · exact .inr (.inr ⟨c, l, by simp [pos, e]⟩)
    · refine .inr (.inl ?_)
      unfold muW
      rw [if_neg h, if_neg (by omega), Nat.add_sub_cancel]
      unfold ptOf
      rw [Array.getElem?_eq_none (by omega)]
theorem arel_W {W : World} {a : Addr} (h : a.spot = none ∧ a.block < W.heap.size) : ARel (muW W) ⟨pos a.block, a.off, none⟩ a := by
  obtain ⟨b, o, s⟩ := a
  obtain ⟨h1, h2⟩ := h
  simp only [] at h1 h2
  subst h1
  unfold ARel
  rw [muW_pos W h2]
  unfold ptOf
  rw [Array.getElem?_eq_getElem h2]
  cases W.heap[b] <;> simp
theorem mu15 (W : World) : muW W 15 = .dead := by
  have := gv15
  unfold muW
  rw [if_pos (by omega), if_neg (by omega)]
theorem vrel_V (W : World) (v : Value) : VRel (muW W) (absV W.heap.size v) v := by
  unfold absV
  split
  · exact .bool _
  · exact .int _ _
  · exact .string _
  · exact .nilp
  · split
    · exact .ptr (arel_W ‹_›)
    · exact .poison _
  · exact .nils
  · rename_i a len cap
    split
    · rename_i hlc
      split
      · rename_i h
        refine .slice hlc ?_
        have := arel_W h
        obtain ⟨b, o, s⟩ := a
        unfold ARel at this
        unfold SRel
        cases hm : muW W (pos b) with
        | none => rw [hm] at this; exact this
        | dead => exact Nat.le_refl _
        | blk c base top => rw [hm] at this; exact ⟨rfl, this⟩
      · refine .slice hlc ?_
        unfold SRel
        rw [mu15]; exact Nat.le_refl _
    · exact .poison _
  · split
    · rw [← hand_of ‹_›]; exact .lit _
    · exact .poison _
  · exact .poison _
theorem vrel_A (W : World) (v : Value) : VRel (muW W) (absA W.heap.size v) v := by
  cases v
  case agg cs =>
    refine .agg (by simp) fun i x x' h1 h2 => ?_
    simp only [List.getElem?_map, Option.map_eq_some_iff] at h1
    obtain ⟨y, h3, rfl⟩ := h1
    grind[vrel_V]
  all_goals (unfold absA; exact vrel_V W _)
theorem hrelW (W : World) : HRel (muW W) (hpW W) W := by
  refine ⟨hpW_ok W, fun b c base top hm => ?_, fun b hm => ?_, fun b b' c base top base' top' h1 h2 => ?_, fun b hm => ?_⟩
  · rcases muW_from W b with ⟨h, _⟩ | h | ⟨k, hk, rfl⟩
    · rw [h] at hm; cases hm
    · rw [h] at hm; cases hm
    rw [muW_pos W hk] at hm
    unfold ptOf at hm
    split at hm
    next cs el fz ho =>
      cases hm
      refine ⟨absO W.heap.size (.cells cs el fz), _, by rw [hpW_at W hk, ho]; rfl, ho, cs, el, fz, rfl, rfl, by simp, Tr.sized_ofList _, fun i v hv => ?_, fun h => absurd rfl h⟩
      rw [Tr.get_ofList] at hv
      simp only [List.getElem?_map, Option.map_eq_some_iff] at hv
      obtain ⟨y, h3, rfl⟩ := hv
      grind[vrel_V]
    next => cases hm
    next => cases hm
  · rcases muW_from W b with ⟨_, h⟩ | h | ⟨k, hk, rfl⟩
    · exact h
    · rw [h] at hm; cases hm
    rw [muW_pos W hk] at hm
    unfold ptOf at hm
    split at hm
    next => cases hm
    next o ho1 ho2 =>
      rw [hpW_at W hk, ho2]
      cases o <;> first | rfl | grind
    next => cases hm
  · have key : ∀ b c base top, muW W b = .blk c base top → b = pos c := by
      intro b c base top hm
      rcases muW_from W b with ⟨h, _⟩ | h | ⟨k, hk, rfl⟩
      · rw [h] at hm; cases hm
      · rw [h] at hm; cases hm
      rw [muW_pos W hk] at hm
      unfold ptOf at hm
      split at hm <;> cases hm
      rfl
    rw [key _ _ _ _ h1, key _ _ _ _ h2]
  · show b < 16 + W.heap.size
    rcases Nat.lt_or_ge b 16 with h | h
    · omega
    · have := gv15
      unfold muW at hm
      rw [if_neg (by omega)] at hm
      split at hm
      · omega
      · unfold ptOf at hm
        split at hm
        · rename_i e; have := (Array.getElem?_eq_some_iff.1 e).1; omega
        · rename_i e; have := (Array.getElem?_eq_some_iff.1 e).1; omega
        · exact absurd rfl hm
theorem globW (W : World) : Glob (muW W) := by
  intro g hg
  unfold ARel
  by_cases e : g = GV ∧ GV < W.heap.size
  · obtain ⟨rfl, l⟩ := e
    have := arel_W (W := W) (a := ⟨GV, 0, none⟩) ⟨rfl, l⟩
    simp only [pos, if_pos] at this
    exact this
  · simp only [muW, if_pos hg, if_neg e]
theorem belowW {W w' : World} {mu' : Mu} {h' : Hp} (e : Ext (muW W) (hpW W) W mu' h' w') : Below W.heap.size W w' := by
  refine ⟨e.os, e.tape, e.output, e.wsize, fun c hc => ?_⟩
  have hp := muW_pos W hc
  cases ho : W.heap[c] with
  | cells cs el fz =>
    have h1 : W.heap[c]? = some (.cells cs el fz) := by grind
    have h2 : muW W (pos c) = .blk c 0 cs.size := by rw [hp, ptOf, h1]
    exact (e.ro (pos c) c 0 cs.size _ _ 0 h2 (by rw [hpW_at W hc, h1]; rfl)).1
  | _ =>
    refine e.frame c hc fun b base top hm => ?_
    rcases muW_from W b with ⟨h, _⟩ | h | ⟨k, hk, rfl⟩
    · rw [h] at hm; cases hm
    · rw [h] at hm; cases hm
    rw [muW_pos W hk] at hm
    unfold ptOf at hm
    split at hm
    next cs' el' fz' ho' =>
      cases hm
      rw [Array.getElem?_eq_getElem hc, ho] at ho'
      cases ho'
    next => cases hm
    next => cases hm
/-- The model follows a run that leaves old memory alone, whatever its arguments. -/
theorem calls_W {E : Env} {P : Program} (ok : EOk E P) {f : FuncId} {args : Array Value} {W : World} (hr : Pure E f (args.toList.map (absA W.heap.size)) (hpW W) (.bool true)) :
    Calls P f args W fun e w' => e = .returned (.bool true) ∧ Below W.heap.size W w' := by
  obtain ⟨v, h', hl, rfl, g⟩ := hr
  intro cs
  obtain ⟨_, h1⟩ := lim_ok ok _ _ _ _ _ _ _ hl
  have ha : VL (muW W) (args.toList.map (absA W.heap.size)) args.toList := by
    refine ⟨by simp, fun i x x' h1 h2 => ?_⟩
    simp only [List.getElem?_map, Option.map_eq_some_iff] at h1
    obtain ⟨y, h3, rfl⟩ := h1
    grind[vrel_A]
  obtain ⟨mu', w', rcC', fr, k1, k2, k3, k4, k5, k6, k7⟩ := h1 (muW W) W args none cs .normal (hrelW W) (globW W) ha trivial (.inl rfl)
  have := k4.normal
  subst this
  obtain ⟨v', l1, l2⟩ := k6
  cases l2
  obtain ⟨fn, r1, r2⟩ := l1.res
  exact ⟨.returned (.bool true), w', fr, ⟨rfl, belowW k2⟩, k5, k7, l1.mode, l1.defers, l1.kind, fn, r1, r2⟩
theorem spot_W {W : World} {a : Addr} {v : Value} (h : W.cell? a = some v) : a.spot = none ∧ a.block < W.heap.size := by
  unfold World.cell? at h
  split at h
  next cs el fz ho =>
    have hlt := (Array.getElem?_eq_some_iff.1 ho).1
    simp_all
  grind
/-- A cell of the world, in the heap. -/
theorem load_W {W : World} {a : Addr} {i : Nat} {v : Value} (hsp : a.spot = none) (h : W.cell? (a.add i) = some v) : (hpW W).load (pos a.block) (a.off + i) 1 = some [absV W.heap.size v] := by
  obtain ⟨b, o, s⟩ := a
  simp only [] at hsp
  subst hsp
  have he : (Addr.mk b o none).add i = ⟨b, o + i, none⟩ := by
    grind[Addr.add]
  rw [he] at h
  unfold World.cell? at h
  simp only [] at h
  split at h
  next cs el fz ho =>
    have hr : Row (hpW W) (pos b) (cs.toList.map (absV W.heap.size)) 0 := ⟨_, _, by rw [hpW_at W (Array.getElem?_eq_some_iff.1 ho).1, ho]; rfl, Tr.sized_ofList _, fun j => Tr.get_ofList _ j⟩
    refine hr.load1 ?_
    grind
  grind
end
end Go.Ab

/- Tables of what functions answer. -/
namespace Go.Ab
def argEq : Value → Value → Bool
  | .int k a, .int k' b => keqb k k' && ibeq a b
  | .bool a, .bool b => bif a then b else !b
  | .string s, .string u => bytesEq (byteList s) (byteList u)
  | _, _ => false
def argsEq : List Value → List Value → Bool
  | [], [] => true
  | a :: l, b :: m => argEq a b && argsEq l m
  | _, _ => false
def orcOf : List (Nat × List Value × Value) → Nat → List Value → Option Value
  | [], _, _ => none
  | (f, as, v) :: l, g, args => bif Nat.beq f g && argsEq as args then some v else orcOf l g args
theorem argEq_eq {a b : Value} (h : argEq a b = true) : a = b := by
  unfold argEq at h
  split at h
  · rename_i k m k' n
    simp only [Bool.and_eq_true] at h
    have h1 : k = k' := by simpa [keqb_eq] using h.1
    have h2 : m = n := by simpa [ibeq_eq] using h.2
    rw [h1, h2]
  · rename_i a b
    cases a <;> cases b <;> first | rfl | cases h
  · rename_i s u
    have this : s.data.toList = u.data.toList := by
      have := h
      rw [bytesEq_eq] at this
      simpa [byteList] using this
    cases s with | mk a => cases u with | mk b => rw [show a = b from Array.ext' this]
  · cases h
theorem argsEq_eq : ∀ {a b : List Value}, argsEq a b = true → a = b
  | [], [], _ => rfl
  | [], _ :: _, h => by simp [argsEq] at h
  | _ :: _, [], h => by simp [argsEq] at h
  | a :: x, b :: y, h => by
    simp only [argsEq, Bool.and_eq_true] at h
    rw [argsEq_eq h.2, argEq_eq h.1]
theorem orcOf_all {P : Nat → List Value → Value → Prop} : ∀ {l : List (Nat × List Value × Value)}, (∀ e ∈ l, P e.1 e.2.1 e.2.2) → ∀ {g : Nat} {args : List Value} {v : Value}, orcOf l g args = some v → P g args v
  | [], _, g, args, v, h => by cases h
  | (f, as, x) :: l, hl, g, args, v, h => by
    simp only [orcOf] at h
    cases hb : Nat.beq f g && argsEq as args with
    | true =>
      rw [hb] at h
      cases h
      simp only [Bool.and_eq_true] at hb
      have h1 := Nat.eq_of_beq_eq_true hb.1
      have h2 := argsEq_eq hb.2
      subst h1
      subst h2
      exact hl _ (List.mem_cons_self)
    | false =>
      rw [hb] at h
      exact orcOf_all (fun e he => hl e (List.mem_cons_of_mem _ he)) h
/-- A closed run's answer, for a table. -/
def isVal (v : Value) (r : Option (Out × Option (Value × Bool) × Hp)) : Bool := match r with
  | some (.ret u, none, _) => argEq u v
  | _ => false
theorem isVal_ret {v : Value} {r : Option (Out × Option (Value × Bool) × Hp)} (h : isVal v r = true) : ∃ h', r = some (.ret v, none, h') := by
  unfold isVal at h
  split at h
  · rw [argEq_eq h]; exact ⟨_, rfl⟩
  · cases h
def Known (E : Env) (P : Program) (e : Nat × List Value × Value) : Prop := (∃ fn, E.fn e.1 = some fn ∧ fn.body.isSome = true) ∧ OrcAt P e.1 e.2.1 e.2.2
theorem known_of {E : Env} {P : Program} (ok : EOk E P) {n : Nat} {f : Nat} {args : List Value} {v : Value} (ha : (args.all okConst && okConst v) = true) (hr : isVal v ((runK E n).call f args none hp0) = true) : Known E P (f, args, v) := by
  simp only [Bool.and_eq_true] at ha
  obtain ⟨h', hr⟩ := isVal_ret hr
  rw [runK_call] at hr
  exact orc_of_run ok ha.1 ha.2 hr
theorem Known.with {E : Env} {P : Program} {o : Nat → List Value → Option Value} {e : Nat × List Value × Value} (k : Known E P e) : Known (withOrc E o) P e := k
theorem Known.without {E : Env} {P : Program} {o : Nat → List Value → Option Value} {e : Nat × List Value × Value} (k : Known (withOrc E o) P e) : Known E P e := k
theorem eok_table {E : Env} {P : Program} (ok : EOk E P) {l : List (Nat × List Value × Value)} (hl : ∀ e ∈ l, Known E P e) : EOk (withOrc E (orcOf l)) P :=
  eok_with ok fun _ _ _ h => orcOf_all (P := fun g args v => Known E P (g, args, v)) hl h
end Go.Ab

/- Calls that are known where a variable holds a type's handle: errors.As at the error's own type, and tables of answers. -/
namespace Go.Ab
noncomputable section
def hasHand (h : Hp) (k : Nat) : Bool := match h.load GV 0 1 with
  | some [.chan (some n)] => Nat.beq n k
  | _ => false
/-- The fault that an error is, or holds. -/
def errP (T : Nat) (X : List Nat) (t : Nat) : Value → Option Value
  | .pointer (some e) => bif Nat.beq t T then some (.pointer (some e)) else none
  | .agg ⟨[.pointer (some e)]⟩ => bif memb t X then some (.pointer (some e)) else none
  | _ => none
def asHit (fn T U : Nat) (X : List Nat) (g : Nat) (args : List Value) (h : Hp) : Option (Value × Hp) := bif Nat.beq g fn then match args with
  | [.iface t v, .iface u (.pointer (some a))] => bif Nat.beq u U then match errP T X t v with
    | some p => match h.store a.block a.off [p] with
      | some h' => some (.bool true, h')
      | none => none
    | none => none else none
  | _ => none else none
/-- What is known where the handle k is held: errors.As (fn) of an error of type T, or of one of X that holds one, and a target of type U; what o tells. -/
def extOf (k fn T U : Nat) (X : List Nat) (o : Nat → List Value → Option Value) (g : Nat) (args : List Value) (h : Hp) : Option (Value × Hp) :=
  bif Nat.beq g fn || (o g args).isSome then bif hasHand h k then match asHit fn T U X g args h with
    | some r => some r
    | none => match o g args with
      | some v => some (v, h)
      | none => none else none else none
theorem hand_at {mu : Mu} {h : Hp} {w : World} {k : Nat} (hh : HRel mu h w) (hg : Glob mu) (e : hasHand h k = true) : w.cell? ⟨GV, 0, none⟩ = some (hand k) := by
  unfold hasHand at e
  split at e
  next n hl =>
    obtain ⟨_, l', h1, h2⟩ := load_rel hh (hg GV (by have := gv15; omega)) (n := 1) hl
    obtain ⟨v', r, rfl, h3, _⟩ := h1.cons_left
    have := h2 0 v' rfl
    rw [add_addr _ _ rfl] at this
    cases h3
    rw [Nat.eq_of_beq_eq_true e] at this
    exact this
  next => cases e

/-- errors.As, in the model. -/
def AsOk (P : Program) (fn T U : Nat) (X : List Nat) (k : Nat) : Prop := ∀ (t : TypeId) (v : Value) (e a : Addr) (w : World), errP T X t v = some (.pointer (some e)) → w.cell? ⟨GV, 0, none⟩ = some (hand k) → ∃ w4, Stayed w w4 ∧ ∀ w2, (storeCells a [.pointer (some e)]).run P w4 = .ok () w2 → ∀ (cs0 : List Frame) (kind : CallKind),
  ∃ fr, Steps P (lone (Frame.enter P fn #[.iface t v, .iface U (.pointer (some a))] kind) cs0 w) (lone fr cs0 w2) ∧ LeaveR P fr w2 kind (.bool true) ∧ fr.fn = fn
theorem errP_rel {mu : Mu} {T t : Nat} {X : List Nat} {v v' p : Value} (h : errP T X t v = some p) (k : VRel mu v v') : ∃ e e', p = .pointer (some e) ∧ errP T X t v' = some (.pointer (some e')) ∧ ARel mu e e' := by
  unfold errP at h
  split at h
  next e =>
    cases hb : Nat.beq t T with
    | false => rw [hb] at h; cases h
    | true =>
      rw [hb] at h; cases h
      cases k with | @ptr _ e' ke =>
      exact ⟨e, e', rfl, by simp [errP, hb], ke⟩
  next e =>
    cases hb : memb t X with
    | false => rw [hb] at h; cases h
    | true =>
      rw [hb] at h; cases h
      cases k with | @agg _ x' k1 k2 =>
      obtain ⟨l⟩ := x'
      have q : LR (VRel mu) [.pointer (some e)] l := ⟨k1, k2⟩
      obtain ⟨y, r, rfl, q1, q2⟩ := q.cons_left
      rw [q2.nil_left]
      cases q1 with | @ptr _ e' ke =>
      exact ⟨e, e', rfl, by simp [errP, hb], ke⟩
  next => cases h
/-- A function, with these constants, answers that one, where the handle is held. -/
def OrcG (P : Program) (k : Nat) (g : FuncId) (args : List Value) (v : Value) : Prop :=
  args.all okConst = true ∧ okConst v = true ∧ ∀ (w : World) (cs0 : List Frame) (kind : CallKind), w.cell? ⟨GV, 0, none⟩ = some (hand k) → (kind = .normal ∨ (kind = .deferred ∧ ∃ c r, cs0 = c :: r ∧ c.mode = .returning)) →
    ∃ w' fr, Stayed w w' ∧ Steps P (lone (Frame.enter P g ⟨args⟩ kind) cs0 w) (lone fr cs0 w') ∧ LeaveR P fr w' kind v ∧ fr.fn = g
theorem const_args {mu : Mu} {args : List Value} {args' : Array Value} (ha : args.all okConst = true) (hva : VL mu args args'.toList) : args' = ⟨args⟩ := by
  apply Array.ext'
  refine List.ext_getElem? fun i => ?_
  obtain ⟨hlen, hget⟩ := hva
  grind[Nat.lt_or_ge,List.getElem?_eq_getElem,okConst,List.all_eq_true,List.getElem_mem,VRel.const_eq,List.getElem?_eq_none]
theorem ext_ok {P : Program} {k fn T U : Nat} {X : List Nat} {o : Nat → List Value → Option Value} (has : AsOk P fn T U X k) (ho : ∀ g args v, o g args = some v → OrcG P k g args v) {g : Nat} {args : List Value} {h h' : Hp} {v : Value}
    (e : extOf k fn T U X o g args h = some (v, h')) : ExtAt P g args h v h' := by
  intro mu w args' cs0 kind hh hg hva hko
  unfold extOf at e
  cases h1 : (Nat.beq g fn || (o g args).isSome) with
  | false => rw [h1] at e; cases e
  | true =>
  rw [h1] at e
  cases h2 : hasHand h k with
  | false => rw [h2] at e; cases e
  | true =>
  rw [h2] at e
  simp only [cond_true] at e
  have hw := hand_at hh hg h2
  cases h3 : asHit fn T U X g args h with
  | some r =>
    rw [h3] at e
    cases e
    unfold asHit at h3
    cases h4 : Nat.beq g fn with
    | false => rw [h4] at h3; cases h3
    | true =>
    rw [h4] at h3
    simp only [cond_true] at h3
    obtain rfl := Nat.eq_of_beq_eq_true h4
    split at h3
    next t v u a =>
      cases h5 : Nat.beq u U with
      | false => rw [h5] at h3; cases h3
      | true =>
      rw [h5] at h3
      simp only [cond_true] at h3
      obtain rfl := Nat.eq_of_beq_eq_true h5
      cases h5 : errP T X t v with
      | none => rw [h5] at h3; cases h3
      | some p =>
      rw [h5] at h3
      simp only [] at h3
      cases h6 : h.store a.block a.off [p] with
      | none => rw [h6] at h3; cases h3
      | some h7 =>
      rw [h6] at h3
      cases h3
      obtain ⟨x1, r1, q1, k1, m1⟩ := hva.cons_left
      obtain ⟨x2, r2, rfl, k2, m2⟩ := m1.cons_left
      rw [m2.nil_left] at q1
      cases k1 with | @iface _ _ v' k1 => cases k2 with | iface k2 =>
      cases k2 with | @ptr _ a' ka =>
      obtain ⟨e, e', rfl, ke1, ke⟩ := errP_rel h5 k1
      have ha : args' = #[.iface t v', .iface u (.pointer (some a'))] := Array.ext' q1
      subst ha
      obtain ⟨w4, s4, hs⟩ := has t v' e' a' w ke1 hw
      obtain ⟨w2, g1, g2, g3⟩ := store_rel (P := P) (s4.hrel hh) ka h6 (l' := [.pointer (some e')]) (LR.cons (.ptr ke) LR.nil)
      obtain ⟨fr, f1, f2, f3⟩ := hs w2 g1 cs0 kind
      exact ⟨mu, w2, fr, _, g2, Ext.trans (s4.ext hh) g3, f1, f2, .bool _, f3⟩
    next => cases h3
  | none =>
    rw [h3] at e
    simp only [] at e
    cases h4 : o g args with
    | none => rw [h4] at e; cases e
    | some u =>
      rw [h4] at e
      cases e
      obtain ⟨ha, hv, hs⟩ := ho g args v h4
      have hargs := const_args ha hva
      subst hargs
      obtain ⟨w', fr, k1, k2, k3, k4⟩ := hs w cs0 kind hw hko
      exact ⟨mu, w', fr, v, k1.hrel hh, k1.ext hh, k2, k3, VRel.const mu hv, k4⟩
def withExt (E : Env) (x : Nat → List Value → Hp → Option (Value × Hp)) : Env := { E with ext := x }
theorem eok_ext {E : Env} {P : Program} (ok : EOk E P) {k fn T U : Nat} {X : List Nat} {o : Nat → List Value → Option Value} (hf : ∃ f, E.fn fn = some f ∧ f.body.isSome = true) (has : AsOk P fn T U X k)
    (ho : ∀ g args v, o g args = some v → (∃ f, E.fn g = some f ∧ f.body.isSome = true) ∧ OrcG P k g args v) : EOk (withExt E (extOf k fn T U X o)) P where
  fn := ok.fn
  call := ok.call
  ty := ok.ty
  eq := ok.eq
  mixed := ok.mixed
  orc := ok.orc
  ext := by
    intro g args h v h' e
    refine ⟨?_, ext_ok has (fun g args v h => (ho g args v h).2) e⟩
    have e : extOf k fn T U X o g args h = some (v, h') := e
    unfold extOf at e
    cases h1 : Nat.beq g fn with
    | true => rw [Nat.eq_of_beq_eq_true h1]; exact hf
    | false =>
      rw [h1] at e
      cases h2 : o g args with
      | none => rw [h2] at e; cases e
      | some u => exact (ho g args u h2).1
/-- A body's walk, of whatever kind its call is. -/
theorem as_wp {P : Program} {f : FuncId} {fn : Func} {c : Code} {args : Array Value} {w w2 : World} {v : Value} (hf : P.funcs[f]? = some fn) (hb : fn.body = some c)
    (h : c.wp P (bodyPost P fn fun e w' => e = .returned v ∧ w' = w2) { tmps := args ++ Array.replicate (fn.ntmps - args.size) undef, defers := [] } w) (cs0 : List Frame) (kind : CallKind) :
    ∃ fr, Steps P (lone (Frame.enter P f args kind) cs0 w) (lone fr cs0 w2) ∧ LeaveR P fr w2 kind v ∧ fr.fn = f := by
  let b : Frame := { (default : Frame) with fn := f, kind := kind }
  have henter : Frame.enter P f args kind = b.at { tmps := args ++ Array.replicate (fn.ntmps - args.size) undef, defers := [] } [.code c] := by
    simp [Frame.enter, Frame.at, hf, hb, b]
  obtain ⟨e, a', w', hq, harr⟩ := h b [] cs0
  rw [← henter] at harr
  cases e with
  | normal =>
    obtain ⟨hd, v', hr, e1, e2⟩ := hq
    cases e1; subst e2
    exact ⟨_, Steps.trans harr (.one step_end), ⟨rfl, hd, rfl, fn, hf, hr⟩, rfl⟩
  | ret =>
    obtain ⟨todo, hs⟩ := harr
    obtain ⟨hd, v', hr, e1, e2⟩ := hq
    cases e1; subst e2
    exact ⟨_, hs, ⟨rfl, hd, rfl, fn, hf, hr⟩, rfl⟩
  | panic chain => obtain ⟨_, e1, _⟩ := hq; cases e1
  | exit id => exact hq.elim
  | goto l => exact hq.elim
  | outgrown => obtain ⟨e1, _⟩ := hq; cases e1

/-! ### closed runs where the handle is held -/
def hp1 (k : Nat) : Hp := { n := 16, t := Tr.ofList ((List.replicate 16 .dead).set GV (.cells (Tr.ofList [.chan (some k)]) 1 0 0)), lo := 16 }
def mu1 (n : Nat) : Mu := fun b => if b = GV then .blk GV 0 n else if b < 16 then .dead else .none
theorem hp1_get (k b : Nat) (hb : b < 16) : (hp1 k).get b = some (if b = GV then .cells (Tr.ofList [.chan (some k)]) 1 0 0 else .dead) := by
  show (Tr.ofList _).get b = _
  rw [Tr.get_ofList, List.getElem?_set, List.getElem?_replicate]
  have := gv15
  split <;> split <;> simp_all <;> omega
theorem hrel1 {w : World} {k : Nat} (hw : w.cell? ⟨GV, 0, none⟩ = some (hand k)) : ∃ n, HRel (mu1 n) (hp1 k) w := by
  have hgv := gv15
  unfold World.cell? at hw
  simp only [] at hw
  split at hw
  next cs el fz ho =>
    have hc : cs[0]? = some (hand k) := by simpa using hw
    refine ⟨cs.size, ?_, ?_, ?_, ?_, ?_⟩
    · have := Tr.sized_ofList ((List.replicate 16 Blk.dead).set GV (.cells (Tr.ofList [.chan (some k)]) 1 0 0))
      rwa [List.length_set, List.length_replicate] at this
    · intro b c base top h
      unfold mu1 at h
      split at h
      next e =>
        cases h
        subst e
        refine ⟨.cells (Tr.ofList [.chan (some k)]) 1 0 0, _, by rw [hp1_get k _ (by omega), if_pos rfl], ho, cs, el, fz, rfl, rfl, ?_, Tr.sized_ofList _, fun i v hv => ?_, fun x => absurd rfl x⟩
        · have := (Array.getElem?_eq_some_iff.1 hc).1; omega
        · rw [Tr.get_ofList] at hv
          cases i with
          | zero => cases hv; exact ⟨_, by simpa using hc, .lit k⟩
          | succ i => cases hv
      next => split at h <;> cases h
    · intro b h
      unfold mu1 at h
      split at h
      next => cases h
      next e =>
        split at h
        next hb => rw [hp1_get k b hb, if_neg e]
        next => cases h
    · intro b b' c base top base' top' h h'
      unfold mu1 at h h'
      split at h
      next e => split at h' <;> first | (rename_i e'; rw [e, e']) | (split at h' <;> cases h')
      next => split at h <;> cases h
    · intro b h
      unfold mu1 at h
      split at h
      next e => show b < 16; omega
      next => split at h
              next hb => exact hb
              next => exact absurd rfl h
  next => cases hw
theorem glob1 (n : Nat) : Glob (mu1 n) := by
  intro g hg
  unfold ARel mu1
  by_cases e : g = GV
  · subst e; simp
  · simp [e, hg]
theorem stayed1 {w w' : World} {k n : Nat} {mu' : Mu} {h' : Hp} (hh : HRel (mu1 n) (hp1 k) w) (e : Ext (mu1 n) (hp1 k) w mu' h' w') : Stayed w w' := by
  have hgv := gv15
  refine ⟨fun c hc => ?_, e.wsize, e.os, e.tape, e.output⟩
  by_cases hcg : c = GV
  · subst hcg
    have hg := hp1_get k GV (by omega)
    rw [if_pos rfl] at hg
    exact (e.ro GV GV 0 n _ _ _ (by unfold mu1; rw [if_pos rfl]) hg).1
  · refine e.frame c hc fun b base top h => ?_
    unfold mu1 at h
    split at h
    next => cases h; exact hcg rfl
    next => split at h <;> cases h
theorem orcg_of {E : Env} {P : Program} (ok : EOk E P) {k n : Nat} {f : Nat} {args : List Value} {v : Value} (ha : (args.all okConst && okConst v) = true) (hr : isVal v ((runK E n).call f args none (hp1 k)) = true) : (∃ fn, E.fn f = some fn ∧ fn.body.isSome = true) ∧ OrcG P k f args v := by
  simp only [Bool.and_eq_true] at ha
  obtain ⟨h', hr⟩ := isVal_ret hr
  rw [runK_call] at hr
  obtain ⟨h0, h1⟩ := (run_ok ok (fun _ h1 h2 => ⟨draw_ok ok h1 h2, split_ok ok h1 h2⟩) n).1 _ _ _ _ _ _ _ hr
  refine ⟨h0, ha.1, ha.2, fun w cs0 kind hw hk => ?_⟩
  obtain ⟨m, hh⟩ := hrel1 hw
  obtain ⟨mu', w', rcC', fr, k1, k2, k3, k4, k5, k6, k7⟩ := h1 (mu1 m) w ⟨args⟩ none cs0 kind hh (glob1 m) (LR.refl fun a ha' => VRel.const _ (by have := ha.1; simp only [List.all_eq_true] at this; exact this a ha')) trivial hk
  cases rcC' with
  | some x => exact k3.elim
  | none =>
    obtain ⟨v', l1, l2⟩ := k6
    rw [VRel.const_eq ha.2 l2] at l1
    exact ⟨w', fr, stayed1 hh k2, k5, l1, k7⟩
theorem kept_of_stayed {w w' : World} (e : Stayed w w') : Kept w w' := by
  refine ⟨⟨e.os, e.output, fun i hi => ?_⟩, fun a ha => ?_, e.size⟩
  · rw [e.heap i hi]
    split
    · rename_i h1 h2; rw [h1] at h2; cases h2; exact ⟨rfl, rfl, rfl, fun _ _ => rfl⟩
    · rename_i h1 h2; rw [h1] at h2; cases h2; exact .inr ⟨rfl, rfl⟩
    · rfl
  · unfold World.frozen?
    rw [e.heap _ ha]
theorem calls_hand {E : Env} {P : Program} (ok : EOk E P) {k n : Nat} {f : FuncId} {v : Value} {rc : Option (Value × Bool)} {h' : Hp} (hr : (run E n).call f [] none (hp1 k) = some (.ret v, rc, h')) (w : World) (hw : w.cell? ⟨GV, 0, none⟩ = some (hand k)) :
    Calls P f #[] w fun e w' => ∃ mu' v', VRel mu' v v' ∧ e = .returned v' ∧ Kept w w' := by
  intro cs
  obtain ⟨_, h1⟩ := (run_ok ok (fun _ h1 h2 => ⟨draw_ok ok h1 h2, split_ok ok h1 h2⟩) n).1 _ _ _ _ _ _ _ hr
  obtain ⟨m, hh⟩ := hrel1 hw
  obtain ⟨mu', w', rcC', fr, k1, k2, k3, k4, k5, k6, k7⟩ := h1 (mu1 m) w #[] none cs .normal hh (glob1 m) LR.nil trivial (.inl rfl)
  have := k4.normal
  subst this
  obtain ⟨v', l1, l2⟩ := k6
  obtain ⟨fn, r1, r2⟩ := l1.res
  exact ⟨.returned v', w', fr, ⟨mu', v', l2, rfl, kept_of_stayed (stayed1 hh k2)⟩, k5, k7, l1.mode, l1.defers, l1.kind, fn, r1, r2⟩
end
end Go.Ab
