/- A deterministic evaluator of the model's code, and that the model follows it (part 6). -/
import Derived.Test.YtnnimodkmjedaaaGreatDoorAbE
set_option maxHeartbeats 400000
set_option linter.defProp false
set_option linter.unusedVariables false
set_option linter.unusedSimpArgs false
namespace Go.Ab

theorem load_len {h : Hp} {b o n : Nat} {l : List Value} (e : h.load b o n = some l) : l.length = n := by
 unfold Hp.load at e
 split at e
 next t sz el md hg =>
  cases hb : Nat.ble (o + n) sz with
  | false => rw [hb] at e; cases e
  | true => rw [hb] at e; exact (Tr.slice_spec e).1
 next => cases e
theorem lz {h : Hp} {b o n : Nat} {l : List Value} (e : h.load b o n = some l) {i m : Nat} (hi : i + m ≤ n) : h.load b (o + i) m = some ((l.drop i).take m) := by
 unfold Hp.load at e ⊢
 split at e
 next t sz el md hg =>
  cases hb : Nat.ble (o + n) sz with
  | false => rw [hb] at e; cases e
  | true =>
    rw [hb] at e
    have hle := Nat.le_of_ble_eq_true hb
    rw [Nat.ble_eq_true_of_le (by omega : o + i + m ≤ sz)]
    simp only [cond_true] at e ⊢
    obtain ⟨h1, h2⟩ := Tr.slice_spec e
    obtain ⟨l', h3⟩ := Tr.slice_mk (t := t) (i := o + i) (n := m) (fun k hk => by
     have := h2 (i + k) (by omega)
     rw [show o + i + k = o + (i + k) by omega, this]
     rw [List.getElem?_eq_getElem (by omega)]; rfl)
    rw [h3]
    obtain ⟨h4, h5⟩ := Tr.slice_spec h3
    congr 1
    refine List.ext_getElem? fun k => ?_
    rw [List.getElem?_take]
    split
    · rename_i hk
      rw [← h5 k hk, List.getElem?_drop, ← h2 (i + k) (by omega)]
      congr 1
      omega
    · exact List.getElem?_eq_none (by omega)
 next => cases e
theorem load_join {h : Hp} {b o n : Nat} {f : Nat → Value} (h0 : ∃ l, h.load b o 0 = some l) (e : ∀ i, i < n → h.load b (o + i) 1 = some [f i]) : h.load b o n = some ((List.range n).map f) := by
 unfold Hp.load at h0 e ⊢
 cases hg : h.get b with
 | none => rw [hg] at h0; obtain ⟨l, h0⟩ := h0; cases h0
 | some blk =>
 cases blk with
 | dead => rw [hg] at h0; obtain ⟨l, h0⟩ := h0; cases h0
 | map => rw [hg] at h0; obtain ⟨l, h0⟩ := h0; cases h0
 | loop => rw [hg] at h0; obtain ⟨l, h0⟩ := h0; cases h0
 | dfr => rw [hg] at h0; obtain ⟨l, h0⟩ := h0; cases h0
 | cells t sz el md =>
   rw [hg] at h0
   simp only [hg] at e
   simp only [] at h0
   have hle : o + n ≤ sz := by
    cases n with
    | zero =>
      obtain ⟨l, h0⟩ := h0
      cases hb : Nat.ble (o + 0) sz with
      | false => rw [hb] at h0; cases h0
      | true => exact Nat.le_of_ble_eq_true hb
    | succ n =>
      have := e n (by omega)
      cases hb : Nat.ble (o + n + 1) sz with
      | false => rw [hb] at this; cases this
      | true => have := Nat.le_of_ble_eq_true hb; omega
   have hget : ∀ i, i < n → t.get (o + i) = some (f i) := by
    intro i hi
    have := e i hi
    rw [Nat.ble_eq_true_of_le (by omega : o + i + 1 ≤ sz)] at this
    have := (Tr.slice_spec this).2 0 (by omega)
    simpa using this
   simp only []
   rw [Nat.ble_eq_true_of_le hle]
   simp only [cond_true]
   obtain ⟨l, hl⟩ := Tr.slice_mk (t := t) (i := o) (n := n) (fun k hk => by rw [hget k hk]; rfl)
   rw [hl]
   obtain ⟨h4, h5⟩ := Tr.slice_spec hl
   congr 1
   refine List.ext_getElem? fun k => ?_
   rw [List.getElem?_map]
   rcases Nat.lt_or_ge k n with hk | hk
   · rw [← h5 k hk, hget k hk, List.getElem?_range hk]; rfl
   · rw [List.getElem?_eq_none (by omega), List.getElem?_eq_none (by simpa using hk)]; rfl

section
variable {α : Type}
theorem aZ {k : Nat} {enc : α → List Value} (he : ∀ x, (enc x).length = k) (xs : List α) : (xs.flatMap enc).length = xs.length * k := by
 induction xs with
 | nil => simp
 | cons x xs ih => rw [List.flatMap_cons, List.length_append, he, ih, List.length_cons, Nat.succ_mul]; omega
theorem uM {k : Nat} {enc : α → List Value} (he : ∀ x, (enc x).length = k) (xs : List α) {i : Nat} (hi : i < xs.length) : ((xs.flatMap enc).drop (i * k)).take k = enc xs[i] := by
 induction xs generalizing i with
 | nil => simp at hi
 | cons x xs ih =>
   cases i with
   | zero => simp [List.flatMap_cons, ← he x]
   | succ i =>
     rw [List.flatMap_cons, Nat.succ_mul, Nat.add_comm, ← List.drop_drop]
     rw [show List.drop k (enc x ++ List.flatMap enc xs) = List.flatMap enc xs by rw [← he x]; exact List.drop_left]
     simpa using ih (i := i) (by simpa using hi)
def aB (h : Hp) (k : Nat) (enc : α → List Value) (v : Value) (xs : List α) : Prop :=
 (v = .slice none 0 0 ∧ xs = []) ∨ ∃ b o s c, v = .slice (some ⟨b, o, s⟩) xs.length c ∧ xs.length ≤ c ∧ h.load b o (xs.length * k) = some (xs.flatMap enc)
variable {h : Hp} {k : Nat} {enc : α → List Value} {v : Value} {xs : List α}
theorem aB.gr {h' : Hp} (g : Gr h h') (s : aB h k enc v xs) : aB h' k enc v xs := by
 rcases s with s | ⟨b, o, s, c, h1, h2, h3⟩
 · exact .inl s
 · exact .inr ⟨b, o, s, c, h1, h2, g.load h3⟩
def ax : Value → Nat → Prop
 | .slice (some a) _ _, b => a.block = b
 | .pointer (some a), b => a.block = b
 | _, _ => False
theorem aB.mo {M : Nat → Prop} {h' : Hp} (g : Mo M h h') (s : aB h k enc v xs) (hm : ∀ b, ax v b → ¬ M b) : aB h' k enc v xs := by
 rcases s with s | ⟨b, o, s, c, h1, h2, h3⟩
 · exact .inl s
 · refine .inr ⟨b, o, s, c, h1, h2, ?_⟩
   have := g.get b (cG g.ok0 h3) (hm b (by rw [h1]; rfl))
   unfold Hp.load at h3 ⊢
   rw [this]; exact h3
theorem aB.lt (ok : h.t.Sized h.n) (s : aB h k enc v xs) {b : Nat} (hb : ax v b) : b < h.n := by
 rcases s with ⟨rfl, _⟩ | ⟨b', o, s, c, rfl, h2, h3⟩
 · exact hb.elim
 · have : b' = b := hb
   subst this
   exact cG ok h3
theorem aB.len {E : Env} {t e : TypeId} (s : aB h k enc v xs) (hu : E.und t = some (.slice e)) : jN E t v = some (.int .i64 xs.length) := by
 rcases s with ⟨rfl, rfl⟩ | ⟨b, o, s, c, rfl, h2, h3⟩ <;> simp [jN, hu]
theorem aB.idx (s : aB h k enc v xs) (he : ∀ x, (enc x).length = k) {i : Nat} (hi : i < xs.length) : ∃ b o s' c, v = .slice (some ⟨b, o, s'⟩) xs.length c ∧ h.load b (o + i * k) k = some (enc xs[i]) := by
 rcases s with ⟨rfl, rfl⟩ | ⟨b, o, s, c, rfl, h2, h3⟩
 · simp at hi
 · refine ⟨b, o, s, c, rfl, ?_⟩
   have : i * k + k ≤ xs.length * k := by rw [← Nat.succ_mul]; exact Nat.mul_le_mul_right _ hi
   rw [lz h3 this, uM he xs hi]
theorem aB.at {E : Env} {t e : TypeId} {kd : IntKind} (s : aB h k enc v xs) (he : ∀ x, (enc x).length = k) (hu : E.und t = some (.slice e)) (hs : E.sz e = some k) {i : Nat} (hi : i < xs.length) :
 ∃ b o, dq E t v (.int kd i) = some (.pointer (some ⟨b, o, none⟩)) ∧ h.load b o k = some (enc xs[i]) := by
 obtain ⟨b, o, s', c, rfl, hl⟩ := s.idx he hi
 refine ⟨b, o + i * k, ?_, hl⟩
 rw [ia_slice hu hs, ky hi]
 rfl
theorem aB.src (s : aB h k enc v xs) : aH h k v = some (xs.length, xs.flatMap enc) := by
 rcases s with ⟨rfl, rfl⟩ | ⟨b, o, s, c, rfl, h2, h3⟩
 · rfl
 · cases c with
   | zero =>
     have : xs.length = 0 := by omega
     have hx : xs = [] := List.length_eq_zero_iff.1 this
     subst hx
     simp only [aH, List.length_nil] at h3 ⊢
     rw [h3]
   | succ c =>
     simp only [aH]
     rw [h3]
theorem io.sl {vs : List Value} (g : io h (v, k, vs)) (hv : vs = xs.flatMap enc) (he : ∀ x, (enc x).length = k) (hk : 0 < k) : aB h k enc v xs := by
 rcases g with ⟨h1, h2⟩ | ⟨b, n, h1, h2, h3⟩
 · simp only [] at h1 h2
   refine .inl ⟨h1, ?_⟩
   rw [h2] at hv
   have := aZ he xs
   rw [← hv] at this
   cases xs with
   | nil => rfl
   | cons x xs =>
     simp only [List.length_nil, List.length_cons, Nat.succ_mul] at this
     omega
 · simp only [] at h1 h2 h3
   have hn : n = xs.length := by
    rw [hv, aZ he] at h2
    exact Nat.eq_of_mul_eq_mul_right hk h2
   subst hn
   refine .inr ⟨b, 0, some k, xs.length, h1, Nat.le_refl _, ?_⟩
   rw [h3.load (by omega), h2, List.drop_zero, List.take_length, hv]
theorem io.len {E : Env} {t e : TypeId} {vs : List Value} (g : io h (v, k, vs)) (hk : 0 < k) (hu : E.und t = some (.slice e)) {n : Nat} (hn : n * k = vs.length) : jN E t v = some (.int .i64 n) := by
 rcases g with ⟨h1, h2⟩ | ⟨b, m, h1, h2, h3⟩
 · simp only [] at h1 h2
   subst h1 h2
   have : n = 0 := by
    cases n with
    | zero => rfl
    | succ n => simp only [List.length_nil, Nat.succ_mul] at hn; omega
   subst this
   simp [jN, hu]
 · simp only [] at h1 h2
   subst h1
   have : m = n := Nat.eq_of_mul_eq_mul_right hk (h2.trans hn.symm)
   subst this
   simp [jN, hu]
end
def encI (kd : IntKind) (x : Int) : List Value := [.int kd x]
theorem cN (kd : IntKind) (x : Int) : (encI kd x).length = 1 := rfl
def agg1 : Option (List Value) → Option Value
 | some l => some (.agg ⟨l⟩)
 | none => none
theorem agg1_some {l : List Value} : agg1 (some l) = some (.agg ⟨l⟩) := rfl
theorem loadV_agg {E : Env} {h : Hp} {t : TypeId} {b o n : Nat} {s : Option Nat} (ht : E.agg t = some true) (hs : E.sz t = some n) : dz E h t (.pointer (some ⟨b, o, s⟩)) = agg1 (h.load b o n) := by
 simp only [dz, ht, hs]
 cases h.load b o n <;> rfl

def isIface (E : Env) (t : TypeId) : Bool := match E.und t with
 | some (.interface _) => true
 | _ => false
def eS (E : Env) (t : TypeId) : Bool := match E.und t with
 | some (.pointer _) => true
 | _ => false
def aQ (E : Env) (t : TypeId) : Bool := match E.und t with
 | some (.struct _) => true
 | some (.int _) => true
 | some (.pointer _) => true
 | _ => false
section
variable {E : Env} {t : TypeId} {x y : Operand}
theorem kN (hu : isIface E t = true) : ∃ a, E.und t = some (.interface a) := by
 unfold isIface at hu; split at hu <;> first | exact ⟨_, ‹_›⟩ | cases hu
theorem nU (hu : eS E t = true) : ∃ a, E.und t = some (.pointer a) := by
 unfold eS at hu; split at hu <;> first | exact ⟨_, ‹_›⟩ | cases hu
theorem n_iface (hu : isIface E t = true) {u : TypeId} {v : Value} : bj E .neq t x y (.iface u v) .nilIface = some (.bool true) := by
 obtain ⟨a, ha⟩ := kN hu
 simp [bj, dS, dQ, ha]
theorem n_nil (hu : isIface E t = true) {v : Value} : bj E .neq t x (.const v) .nilIface .nilIface = some (.bool false) := by
 obtain ⟨a, ha⟩ := kN hu
 cases x <;> simp [bj, dS, dQ, ha]
theorem e_iface (hu : isIface E t = true) {u : TypeId} {v : Value} : bj E .eql t x y (.iface u v) .nilIface = some (.bool false) := by
 obtain ⟨a, ha⟩ := kN hu
 simp [bj, dS, dQ, ha]
theorem e_nil (hu : isIface E t = true) {v : Value} : bj E .eql t x (.const v) .nilIface .nilIface = some (.bool true) := by
 obtain ⟨a, ha⟩ := kN hu
 cases x <;> simp [bj, dS, dQ, ha]
theorem n_ptr (hu : eS E t = true) {a : Addr} : bj E .neq t x y (.pointer (some a)) (.pointer none) = some (.bool true) := by
 obtain ⟨e, ha⟩ := nU hu
 simp [bj, dS, dQ, ha]
theorem e_ptr (hu : eS E t = true) {a : Addr} : bj E .eql t x y (.pointer (some a)) (.pointer none) = some (.bool false) := by
 obtain ⟨e, ha⟩ := nU hu
 simp [bj, dS, dQ, ha]
theorem n_pnil (hu : eS E t = true) : bj E .neq t x y (.pointer none) (.pointer none) = some (.bool false) := by
 obtain ⟨e, ha⟩ := nU hu
 simp [bj, dS, dQ, ha]
theorem e_pnil (hu : eS E t = true) : bj E .eql t x y (.pointer none) (.pointer none) = some (.bool true) := by
 obtain ⟨e, ha⟩ := nU hu
 simp [bj, dS, dQ, ha]
theorem oh (hu : aQ E t = true) : ∃ d, E.und t = some d ∧ ∀ a, d ≠ .interface a := by
 unfold aQ at hu
 split at hu <;> first | exact ⟨_, ‹_›, by intro a e; cases e⟩ | cases hu
theorem assert_is (hu : aQ E t = true) {v : Value} : kc E (.iface t v) t true = some (.tuple #[v, .bool true]) := by
 obtain ⟨d, h1, h2⟩ := oh hu
 unfold kc
 rw [h1]
 cases d <;> first | exact absurd rfl (h2 _) | simp [nG]
theorem mk_iface (hu : aQ E t = true) {v : Value} : (match E.und t with | none => none | some (.interface _) => none | some _ => some (Value.iface t v)) = some (.iface t v) := by
 obtain ⟨d, h1, h2⟩ := oh hu
 rw [h1]
 cases d <;> first | exact absurd rfl (h2 _) | rfl
end

theorem o_recover {E : Env} {ρ : Operand → Value} {h : Hp} {as : Array Operand} {ts : Array TypeId} : aop E ρ h (.call ⟨.builtin .recover, as, ts⟩) = some (.recov, h) := rfl
theorem o_deferR {E : Env} {ρ : Operand → Value} {h : Hp} {f : Operand} {as : Array Operand} {ts : Array TypeId} : aop E ρ h (.defer ⟨.value f, as, ts⟩) = match ρ f with
 | .func (.func g) a b => some (.defer { target := .fn (.func g) b, args := ⟨a.toList ++ as.toList.map ρ⟩ }, h)
 | _ => none := rfl
def panR (h : Hp) : Value → Option (cJ × Hp)
 | .iface t v => some (.panic (.iface t v), h)
 | _ => none
theorem o_panicR {E : Env} {ρ : Operand → Value} {h : Hp} {x : Operand} : aop E ρ h (.panic x) = panR h (ρ x) := by
 simp only [aop, panR]; cases ρ x <;> rfl
theorem tH {h : Hp} {t : TypeId} {v : Value} : panR h (.iface t v) = some (.panic (.iface t v), h) := rfl
section
variable {E : Env} {cx : Cx} {o : Oper} {K : Ex → Loc → Hp → Prop} {h : Hp} {n : Nat} {ρ : Nat → Value} {d : List Deferred}
theorem pu {v : Value} : dL E cx o (LL n ρ d (some (v, false))) K (some (.recov, h)) ↔ cx.round = none ∧ K .normal ((LL n ρ d (some (v, true))).put o.dst v) h := Iff.rfl
theorem pA : dL E cx o (LL n ρ d none) K (some (.recov, h)) ↔ cx.round = none ∧ K .normal ((LL n ρ d none).put o.dst .nilIface) h := Iff.rfl
theorem step_defer {rc : Option (Value × Bool)} {x : Deferred} : dL E cx o (LL n ρ d rc) K (some (.defer x, h)) ↔ cx.round = none ∧ K .normal ((LL n ρ (x :: d) rc).put o.dst (.tuple #[])) h := Iff.rfl
theorem oX {l : Loc} {b : Nat} {args : List Value} {P : Out → Hp → Prop} (hr : iz E b args h P) (hk : ∀ x h', P x h' → match x with
 | .ret v => K .normal (l.put o.dst v) h'
 | .pan v => K (.pan v) l h') : dL E cx o l K (some (.yield b args, h)) := by
 obtain ⟨x, h', a, b⟩ := hr
 exact ⟨x, h', a, hk x h' b⟩
end
theorem sJ {b : Nat} {args : List Value} : target (.func (.yield b) #[] #[]) args = some (.yield b args) := rfl
def UnQ (E : Env) (ds : List Deferred) (m : Option Value) (h : Hp) (Q : Option Value → Hp → Prop) : Prop := ∃ m' h', bA (lim E) ds m h = some (m', h') ∧ Q m' h'
section
variable {E : Env} {rs : List ResultVar} {Q : Out → Option (Value × Bool) → Hp → Prop} {n : Nat} {ρ : Nat → Value} {d : List Deferred} {rc : Option (Value × Bool)} {h : Hp}
theorem iL (hu : UnQ E d none h fun m h' => m = none ∧ ∃ vs, aN E (tab n ρ) h' rs = some vs ∧ Q (.ret (ag vs)) rc h') : jY E rs Q .ret (LL n ρ d rc) h := by
 obtain ⟨m, h', h1, rfl, h2⟩ := hu
 exact ⟨h', h1, h2⟩
theorem d6 (hu : UnQ E d none h fun m h' => m = none ∧ ∃ vs, aN E (tab n ρ) h' rs = some vs ∧ Q (.ret (ag vs)) rc h') : jY E rs Q .normal (LL n ρ d rc) h := iL hu
theorem g8 {v : Value} (hu : UnQ E d (some v) h fun m h' => match m with
 | some v => Q (.pan v) rc h'
 | none => ∃ vs, aN E (tab n ρ) h' rs = some vs ∧ Q (.ret (ag vs)) rc h') : jY E rs Q (.pan v) (LL n ρ d rc) h := by
 obtain ⟨m, h', h1, h2⟩ := hu
 exact ⟨m, h', h1, h2⟩
theorem dN {m : Option Value} {P : Option Value → Hp → Prop} (hp : P m h) : UnQ E [] m h P := ⟨m, h, rfl, hp⟩
theorem un_dfr {b : Nat} {ds : List Deferred} {m : Option Value} {P : Option Value → Hp → Prop} (hb : h.get b = some .dfr) (hu : UnQ E ds m (h.put b .dead) P) : UnQ E (my b :: ds) m h P := by
 obtain ⟨m', h', h1, h2⟩ := hu
 refine ⟨m', h', ?_, h2⟩
 simp only [bA, my, hb]
 exact h1
theorem un_fn {f : FuncId} {cap args : Array Value} {ds : List Deferred} {P : Option Value → Hp → Prop} (hc : d9 E f (args.toList ++ cap.toList) none h fun o rc h' => (∃ v, o = .ret v) ∧ rc = none ∧ UnQ E ds none h' P) : UnQ E ({ target := .fn (.func f) cap, args } :: ds) none h P := by
 obtain ⟨o, rc', h1, h2, ⟨v, rfl⟩, rfl, m', h', h3, h4⟩ := hc
 refine ⟨m', h', ?_, h4⟩
 simp only [bA, h2]
 exact h3
theorem iN {vs : List Value} (hv : aN E (tab n ρ) h rs = some vs) (hq : Q (.ret (ag vs)) rc h) : jY E rs Q .ret (LL n ρ [] rc) h := iL (dN ⟨rfl, vs, hv, hq⟩)
end
end Go.Ab

namespace Go.Ab
section
variable {M : Nat → Prop} {h0 h : Hp} {L : List (Nat × Ob)} {G : List GL} {E : Env}
theorem bT {t e : TypeId} {by_ k n : Nat} {zs cs : List Value} {parts : List (Nat × Value)} (hu : E.und t = some (.slice e)) (he : dD E e by_ k zs) (hn : n * k ≤ 16777216)
 (hf : fi (fun i => some (i * k, k)) (aY zs n) parts = some cs) : kG h (fun h => co (gm E h t n parts)) (fun b => .slice (some ⟨b, 0, none⟩) n n) (.row cs 1) := by
 obtain ⟨⟨i, hi, rfl, rfl⟩, hz, hl⟩ := he
 have hs : E.sz e = some i.size := by unfold Env.sz; rw [hi]
 refine ⟨.cells (Tr.ofList cs) cs.length e 1, fun x => ?_, fun ok => kf ok _ _ _⟩
 simp only [gm, hu, hs, Nat.ble_eq_true_of_le hn, hz, hl, Nat.beq_refl, hf, cond_true]
 rfl
theorem St.clone (S : St M h0 h L G) {t tx e : TypeId} {by_ k m n md : Nat} {zs new vs : List Value} {b : Nat} {x : Value} (hu : E.und t = some (.slice e)) (he : dD E e by_ k zs) (hb : 0 < by_)
 (hx : ay E tx = some false) (hsrc : aH h k x = some (m, new)) (hm : m * k = new.length) (hn : n * k = vs.length) (hk : 0 < k) (hsz : (vs.length + new.length) * (by_ + 1) ≤ 70368744177664) {ts : List TypeId}
 (hl : Row h b vs md) :
 ∃ h' v', cR E h (t :: tx :: ts) (.slice (some ⟨b, 0, none⟩) n n) x = some (h', v') ∧
   ((m = 0 ∧ h' = h ∧ v' = .slice (some ⟨b, 0, none⟩) n n) ∨ ∃ b', v' = .slice (some ⟨b', 0, some k⟩) (n + m) (n + m) ∧ St M h0 h' ((b', .row (vs ++ new) 1) :: L) G) := by
 obtain ⟨⟨i, hi, rfl, rfl⟩, hz, hl2⟩ := he
 have hst : cR E h (t :: tx :: ts) (.slice (some ⟨b, 0, none⟩) n n) x = dR E h e i (some ⟨b, 0, none⟩) n n m new := by
  simp only [cR, hx, ib, hu, hi, hsrc]
 rw [hst]
 by_cases h1 : m = 0
 · subst h1
   have : new = [] := by
    cases new with
    | nil => rfl
    | cons a l => simp at hm
   subst this
   refine ⟨h, _, ?_, .inl ⟨rfl, rfl, rfl⟩⟩
   unfold dR
   rw [Nat.ble_eq_true_of_le (by omega : n + 0 ≤ n)]
   rfl
 · have hcap : Nat.ble (n + m) n = false := by
    cases hx : Nat.ble (n + m) n with
    | false => rfl
    | true => exact absurd (Nat.le_of_ble_eq_true hx) (by omega)
   have hmul : n + m ≤ vs.length + new.length := by
    rw [← hn, ← hm]
    have h1 := Nat.le_mul_of_pos_right n hk
    have h2 := Nat.le_mul_of_pos_right m hk
    omega
   have hguard : (Nat.ble ((n + m) * (i.bytes + 1)) 70368744177664 && Nat.blt 0 i.bytes) = true := by
    rw [Nat.ble_eq_true_of_le (Nat.le_trans (Nat.mul_le_mul_right _ hmul) hsz)]
    simp only [Bool.true_and]
    rw [Nat.blt_eq]; exact hb
   have hzl : Nat.beq zs.length i.size = true := by rw [hl2]; exact Nat.beq_refl _
   have hstart : dR E h e i (some ⟨b, 0, none⟩) n n m new = jX h e i.size (some ⟨b, 0, none⟩) n m new := by
    unfold dR
    rw [hcap]
    simp only [cond_false]
    rw [hguard, hz]
    simp only [cond_true, hzl]
   rw [hstart]
   obtain ⟨tr, el, hget, hsz', htr⟩ := hl
   have hgt : iq tr vs.length 0 (n * i.size) new = some (tr.pushAll vs.length new, vs.length + new.length) := by
    unfold iq
    rw [hn, Nat.beq_refl vs.length]
    rfl
   refine ⟨h.new (.cells (tr.pushAll vs.length new) (vs.length + new.length) e 1), .slice (some ⟨h.n, 0, some i.size⟩) (n + m) (n + m), ?_, .inr ⟨h.n, rfl, ?_⟩⟩
   · unfold jX
     simp only [hget, hgt]
   · refine S.new ⟨tr.pushAll vs.length new, e, ?_, ?_, fun j => ?_⟩
     · rw [h.get_new _ S.ok, if_pos rfl, List.length_append]
     · rw [List.length_append]; exact Tr.sized_pushAll _ hsz'
     · rw [Tr.get_pushAll _ _ _ hsz', List.getElem?_append]
       split
       · exact htr j
       · rfl
theorem St.cloneSl {α : Type} {enc : α → List Value} {xs ys : List α} (S : St M h0 h L G) {t tx e : TypeId} {by_ k md : Nat} {zs : List Value} {b : Nat} {x : Value} (hu : E.und t = some (.slice e)) (he : dD E e by_ k zs) (hb : 0 < by_)
 (hx : ay E tx = some false) (hs : aB h k enc x ys) (hen : ∀ x, (enc x).length = k) (hk : 0 < k) (hsz : ((xs.length + ys.length) * k) * (by_ + 1) ≤ 70368744177664) {ts : List TypeId}
 (hl : Row h b (xs.flatMap enc) md) :
 ∃ h' v', cR E h (t :: tx :: ts) (.slice (some ⟨b, 0, none⟩) xs.length xs.length) x = some (h', v') ∧ St M h0 h' L G ∧ Gr h h' ∧ aB h' k enc v' (xs ++ ys) ∧ (∀ c, ax v' c → c = b ∨ h.n ≤ c) := by
 obtain ⟨h', v', h1, h2⟩ := S.clone hu he hb hx hs.src (aZ hen ys).symm (aZ hen xs).symm hk (by rw [aZ hen, aZ hen, ← Nat.add_mul]; exact hsz) (ts := ts) hl
 refine ⟨h', v', h1, ?_⟩
 rcases h2 with ⟨hm, rfl, rfl⟩ | ⟨b', rfl, hS⟩
 · have hy : ys = [] := List.length_eq_zero_iff.1 hm
   subst hy
   refine ⟨S, Gr.refl S.ok, .inr ⟨b, 0, none, xs.length, by simp, by simp, ?_⟩, fun c hc => .inl (Eq.symm hc)⟩
   rw [List.append_nil, hl.load (by rw [aZ hen]; omega), List.drop_zero, ← aZ hen xs, List.take_length]
 · have S' : St M h0 h' L G := ⟨hS.fr, fun p hp => hS.own p (List.mem_cons_of_mem _ hp), hS.gown, (List.nodup_cons.1 hS.apart).2⟩
   have hrow : Row h' b' (xs.flatMap enc ++ ys.flatMap enc) 1 := hS.row m0
   have T := (St.init (M := NoM) S.ok).clone hu he hb hx hs.src (aZ hen ys).symm (aZ hen xs).symm hk (by rw [aZ hen, aZ hen, ← Nat.add_mul]; exact hsz) (ts := ts) hl
   obtain ⟨h2', v2', k1, k2⟩ := T
   rw [h1] at k1
   cases k1
   rcases k2 with ⟨hm, _, he⟩ | ⟨b2, e2, hT⟩
   · exact absurd he (by intro e; cases e)
   · cases e2
     refine ⟨S', hT.gr, .inr ⟨b', 0, some k, xs.length + ys.length, by rw [List.length_append], by rw [List.length_append]; exact Nat.le_refl _, ?_⟩, fun c hc => ?_⟩
     · rw [hrow.load (by rw [List.length_append, List.length_append, aZ hen, aZ hen, Nat.add_mul]; omega), List.drop_zero, ← List.flatMap_append, ← aZ hen (xs ++ ys), List.take_length]
     · right
       have : b' = c := hc
       subst this
       rcases (hT.own _ m0).1 with h | h
       · exact h
       · exact h.elim
end
end Go.Ab

namespace Go.Ab
section
variable {E : Env} {t e : TypeId} {h : Hp} {x y : Operand}
noncomputable def lenR (E : Env) (h : Hp) (t : TypeId) (x : Value) : Option (cJ × Hp) := lenK (match x with
 | .map (some r) => match h.get r with
   | some (.map es _) => match E.und t with
    | some (.map _ _) => some (.val (.int .i64 (.ofNat es.length)), h)
    | _ => none
   | _ => none
 | _ => none) h (jN E t x)
theorem o_lenR {ρ : Operand → Value} {x : Operand} : aop E ρ h (.call ⟨.builtin .len, #[x], #[t]⟩) = lenR E h t (ρ x) := o_lenK
noncomputable def lenQ (d : Option TypeDesc) (h : Hp) (x : Value) : Option (cJ × Hp) := match d with
 | some .string => match x with
   | .string s => some (.val (.int .i64 (.ofNat s.size)), h)
   | _ => none
 | some (.array n _) => some (.val (.int .i64 (.ofNat n)), h)
 | some (.slice _) => match x with
   | .slice _ n _ => some (.val (.int .i64 (.ofNat n)), h)
   | _ => none
 | some (.map _ _) => match x with
   | .map none => some (.val (.int .i64 0), h)
   | .map (some r) => match h.get r with
     | some (.map es _) => some (.val (.int .i64 (.ofNat es.length)), h)
     | _ => none
   | _ => none
 | _ => none
theorem len_q {x : Value} : lenR E h t x = lenQ (E.und t) h x := by
 unfold lenR jN
 cases hu : E.und t with
 | none => cases x <;> first | rfl | (rename_i r; cases r <;> first | rfl | (rename_i r; simp only [lenQ, lenK]; cases h.get r with | none => rfl | some b => cases b <;> rfl))
 | some d =>
   cases d <;> cases x <;> first
    | rfl
    | (rename_i r; cases r <;> first
      | rfl
      | (rename_i r; simp only [lenQ, lenK]; cases h.get r with | none => rfl | some b => cases b <;> rfl))
theorem tM {a : Option Addr} {n c : Nat} : lenQ (some (.slice e)) h (.slice a n c) = some (.val (.int .i64 n), h) := rfl
theorem lenq_str {s : ByteArray} : lenQ (some .string) h (.string s) = some (.val (.int .i64 s.size), h) := rfl
theorem lenq_arr {n : Nat} {v : Value} : lenQ (some (.array n e)) h v = some (.val (.int .i64 n), h) := rfl
theorem tD {k : TypeId} : lenQ (some (.map k e)) h (.map none) = some (.val (.int .i64 0), h) := rfl
theorem aB.lenq {α : Type} {k : Nat} {enc : α → List Value} {v : Value} {xs : List α} {h h' : Hp} (s : aB h' k enc v xs) : lenQ (some (.slice e)) h v = some (.val (.int .i64 xs.length), h) := by
 rcases s with ⟨rfl, rfl⟩ | ⟨_, _, _, _, rfl, _⟩ <;> rfl
theorem io.lenq {v : Value} {k n : Nat} {vs : List Value} {h h' : Hp} (g : io h' (v, k, vs)) (hk : 0 < k) (hn : n * k = vs.length) : lenQ (some (.slice e)) h v = some (.val (.int .i64 n), h) := by
 rcases g with ⟨h1, h2⟩ | ⟨b, m, h1, h2, h3⟩
 · simp only [] at h1 h2
   subst h1 h2
   have : n = 0 := by
    cases n with
    | zero => rfl
    | succ n => simp only [List.length_nil, Nat.succ_mul] at hn; omega
   subst this
   rfl
 · simp only [] at h1 h2
   subst h1
   have : m = n := Nat.eq_of_mul_eq_mul_right hk (h2.trans hn.symm)
   subst this
   rfl
def idxS (k : Option Nat) (v i : Value) : Option Value := match k with
 | none => none
 | some k => match v with
   | .slice (some a) n _ => match fo i n with
     | none => none
     | some j => some (.pointer (some (dH a (j * k))))
   | _ => none
def idxA (n : Nat) (k : Option Nat) (v i : Value) : Option Value := match k with
 | none => none
 | some k => match v with
   | .pointer (some a) => match fo i n with
     | none => none
     | some j => some (.pointer (some (dH a (j * k))))
   | _ => none
def idxQ (E : Env) (d : Option TypeDesc) (v i : Value) : Option Value := match d with
 | some (.slice e) => idxS (E.sz e) v i
 | some (.array n e) => idxA n (E.sz e) v i
 | _ => none
theorem idx_q {v i : Value} : dq E t v i = idxQ E (E.und t) v i := by
 unfold dq idxQ
 cases hu : E.und t with
 | none => rfl
 | some d =>
   cases d <;> first
    | rfl
    | (simp only [idxS]; cases hs : E.sz _ <;> (split <;> first | rfl | (split <;> simp_all)))
    | (simp only [idxA]; cases hs : E.sz _ <;> (split <;> first | rfl | (split <;> simp_all)))
theorem tS {v i : Value} : idxQ E (some (.slice e)) v i = idxS (E.sz e) v i := rfl
theorem uK {n : Nat} {v i : Value} : idxQ E (some (.array n e)) v i = idxA n (E.sz e) v i := rfl
def putI (a : Addr) (k : Nat) : Option Nat → Option Value
 | none => none
 | some j => some (.pointer (some ⟨a.block, a.off + j * k, none⟩))
theorem lH {k n c : Nat} {a : Addr} {i : Value} : idxS (some k) (.slice (some a) n c) i = putI a k (fo i n) := by
 simp only [idxS, putI, dH]
theorem idxa_ptr {k n : Nat} {a : Addr} {i : Value} : idxA n (some k) (.pointer (some a)) i = putI a k (fo i n) := by
 simp only [idxA, putI, dH]
theorem putI_some {a : Addr} {k j : Nat} : putI a k (some j) = some (.pointer (some ⟨a.block, a.off + j * k, none⟩)) := rfl
theorem aB.ix {α : Type} {k : Nat} {enc : α → List Value} {v : Value} {xs : List α} {kd : IntKind} (s : aB h k enc v xs) (he : ∀ x, (enc x).length = k) {i : Nat} (hi : i < xs.length) :
 ∃ b o, idxS (some k) v (.int kd i) = some (.pointer (some ⟨b, o, none⟩)) ∧ h.load b o k = some (enc xs[i]) := by
 obtain ⟨b, o, s', c, rfl, hl⟩ := s.idx he hi
 refine ⟨b, o + i * k, ?_, hl⟩
 rw [lH, ky hi]
 rfl
noncomputable def loadQ (g : Option Bool) (n : Option Nat) (h : Hp) (b o : Nat) : Option Value := match g with
 | some true => match n with
   | some n => agg1 (h.load b o n)
   | none => none
 | some false => one1 (h.load b o 1)
 | none => none
theorem load_q {b o : Nat} {s : Option Nat} : dz E h t (.pointer (some ⟨b, o, s⟩)) = loadQ (E.agg t) (E.sz t) h b o := by
 cases ha : E.agg t with
 | none => simp [dz, loadQ, ha]
 | some g =>
   cases g with
   | false => exact ub ha
   | true =>
     cases hs : E.sz t with
     | none => simp [dz, loadQ, ha, hs]
     | some n => exact loadV_agg ha hs
theorem loadq_f {b o : Nat} {n : Option Nat} : loadQ (some false) n h b o = one1 (h.load b o 1) := rfl
theorem loadq_t {b o n : Nat} : loadQ (some true) (some n) h b o = agg1 (h.load b o n) := rfl
def i9 (E : Env) (t : TypeId) : Bool := match E.und t with
 | some (.slice _) => true
 | _ => false
theorem sl_und (hu : i9 E t = true) : ∃ a, E.und t = some (.slice a) := by
 unfold i9 at hu; split at hu <;> first | exact ⟨_, ‹_›⟩ | cases hu
theorem e_slice {a : Addr} {n c : Nat} (hu : i9 E t = true) : bj E .eql t x y (.slice (some a) n c) (.slice none 0 0) = some (.bool false) := by
 obtain ⟨e, hu⟩ := sl_und hu
 simp [bj, dS, dQ, hu]
theorem e_snil (hu : i9 E t = true) : bj E .eql t x y (.slice none 0 0) (.slice none 0 0) = some (.bool true) := by
 obtain ⟨e, hu⟩ := sl_und hu
 simp [bj, dS, dQ, hu]

def Fl (v : Value) : Prop := an v = [v] ∧ gO v = true ∧ ∀ x, v ≠ .chan x
theorem aM {k : IntKind} {n : Int} : Fl (.int k n) := ⟨rfl, rfl, nofun⟩
theorem aT {b : Bool} : Fl (.bool b) := ⟨rfl, rfl, nofun⟩
theorem bz {b : ByteArray} : Fl (.string b) := ⟨rfl, rfl, nofun⟩
theorem aX {a : Option Addr} : Fl (.pointer a) := ⟨rfl, rfl, nofun⟩
theorem aw {a : Option Addr} {n c : Nat} : Fl (.slice a n c) := ⟨rfl, rfl, nofun⟩
theorem bo {a : Option Nat} : Fl (.map a) := ⟨rfl, rfl, nofun⟩
theorem aP {f : Fn} {a b : Array Value} : Fl (.func f a b) := ⟨rfl, rfl, nofun⟩
theorem aV : Fl .nilFunc := ⟨rfl, rfl, nofun⟩
theorem aU : Fl .nilIface := ⟨rfl, rfl, nofun⟩
theorem aK {t : TypeId} {v : Value} : Fl (.iface t v) := ⟨rfl, rfl, nofun⟩
theorem aB.fl {α : Type} {k : Nat} {enc : α → List Value} {v : Value} {xs : List α} (s : aB h k enc v xs) : Fl v := by
 rcases s with ⟨rfl, _⟩ | ⟨_, _, _, _, rfl, _⟩ <;> exact aw
theorem io.fl {p : GL} (g : io h p) : Fl p.1 := by
 rcases g with ⟨e, _⟩ | ⟨_, _, e, _⟩ <;> rw [e] <;> exact aw
def placesOf (E : Env) (t : TypeId) : Option (List (Nat × Nat)) := match E.und t with
 | some (.struct fs) => jx E fs.toList
 | _ => none
def aggO : Option (List Value) → Option Value
 | some l => some (.agg ⟨l⟩)
 | none => none
theorem aggO_some {l : List Value} : aggO (some l) = some (.agg ⟨l⟩) := rfl
def iE (ps : List (Nat × Nat)) (l : List Value) (parts : List (Nat × Value)) : Option (List Value) := fi (fun i => ps[i]?) l parts
theorem build_st {zs : List Value} {ps : List (Nat × Nat)} {parts : List (Nat × Value)} (hz : E.zero t = some zs) (hp : placesOf E t = some ps) : je E t parts = aggO (iE ps zs parts) := by
 unfold placesOf at hp
 unfold je iE
 rw [hz]
 split at hp
 · rename_i fs hu
   simp only [hu, hp]
   cases fi (fun i => ps[i]?) zs parts <;> rfl
 · cases hp
theorem fill_nil {ps : List (Nat × Nat)} {l : List Value} : iE ps l [] = some l := rfl
def buildQ (z : Option (List Value)) (p : Option (List (Nat × Nat))) (parts : List (Nat × Value)) : Option Value := match z with
 | none => none
 | some z => match p with
   | none => none
   | some p => aggO (iE p z parts)
theorem build_q {parts : List (Nat × Value)} (hz : (placesOf E t).isSome = true) : je E t parts = buildQ (E.zero t) (placesOf E t) parts := by
 cases hp : placesOf E t with
 | none => rw [hp] at hz; cases hz
 | some ps =>
   cases h0 : E.zero t with
   | none => simp [je, buildQ, h0]
   | some z => exact build_st h0 hp
theorem sY {zs : List Value} {ps : List (Nat × Nat)} {parts : List (Nat × Value)} : buildQ (some zs) (some ps) parts = aggO (iE ps zs parts) := rfl
def nT (ps : List (Nat × Nat)) (l : List Value) (v : Value) (r : List (Nat × Value)) : Option (Nat × Nat) → Option (List Value)
 | none => none
 | some (o, n) => match v with
  | .chan _ => none
  | v => bif Nat.beq (an v).length n && Nat.ble (o + n) l.length then iE ps (bD l o (an v)) r else none
theorem fill_q {ps : List (Nat × Nat)} {l : List Value} {i : Nat} {v : Value} {r : List (Nat × Value)} : iE ps l ((i, v) :: r) = nT ps l v r (ps[i]?) := by
 unfold iE
 cases hp : ps[i]? with
 | none => simp [fi, nT, hp]
 | some q => obtain ⟨o, n⟩ := q; simp only [fi, nT, hp]; rfl
theorem fills_one {ps : List (Nat × Nat)} {l : List Value} {o : Nat} {v : Value} {r : List (Nat × Value)} (hv : Fl v) (ho : o < l.length) : nT ps l v r (some (o, 1)) = iE ps (l.set o v) r := by
 have e : (bif Nat.beq (an v).length 1 && Nat.ble (o + 1) l.length then iE ps (bD l o (an v)) r else none) = iE ps (l.set o v) r := by
  rw [hv.1]
  simp only [List.length_cons, List.length_nil, Nat.zero_add, Nat.beq_refl, Nat.ble_eq_true_of_le (show o + 1 ≤ l.length from ho), Bool.and_self, cond_true, bD]
 cases v <;> first | exact e | exact absurd rfl (hv.2.2 _)
theorem fills_agg {ps : List (Nat × Nat)} {l c : List Value} {o n : Nat} {r : List (Nat × Value)} (hn : c.length = n) (ho : o + n ≤ l.length) : nT ps l (.agg ⟨c⟩) r (some (o, n)) = iE ps (bD l o c) r := by
 simp only [nT, an, hn, Nat.beq_refl, Nat.ble_eq_true_of_le ho, Bool.and_self, cond_true]
theorem setL_nil {l : List Value} {o : Nat} : bD l o [] = l := rfl
theorem setL_cons {l vs : List Value} {o : Nat} {v : Value} : bD l o (v :: vs) = bD (l.set o v) (o + 1) vs := rfl
theorem fE {v : Value} (hv : Fl v) : kG h (fun h => boxR h t v) ptrTo (.row [v] 1) := by
 have := bS (h := h) (t := t) hv.2.2
 rw [hv.1] at this
 exact this
theorem ab {M : Nat → Prop} {h0 : Hp} {L : List (Nat × Ob)} {G : List GL} (S : St M h0 h L G) {i b off md : Nat} {s : Option Nat} {l : List Value} {v : Value} (hi : L[i]? = some (b, .row l md)) (hs : E.sz t = some 1) (hv : Fl v)
 (ho : off < l.length) (hmd : md ≠ 0) : ∃ h', eW E h t (.pointer (some ⟨b, off, s⟩)) v = some h' ∧ St M h0 h' (L.set i (b, .row (l.set off v) md)) G ∧ Mo (· = b) h h' := by
 have hvc : an v = [v] := hv.1
 have := S.store (v := v) (t := t) (s := s) (off := off) (n := 1) hi hs hv.2.2 (by rw [hvc]; rfl) (by rw [hvc]; simp [hv.2.1]) (by omega) hmd
 rw [hvc] at this
 have e : lay l off [v] = l.set off v := by
  refine List.ext_getElem? fun j => ?_
  rw [gu (by simp; omega), List.getElem?_set]
  simp only [List.length_cons, List.length_nil]
  by_cases hj : off = j
  · subst hj; rw [if_pos ⟨Nat.le_refl _, by omega⟩, if_pos rfl, if_pos ho]; simp
  · rw [if_neg (by omega), if_neg hj]
 rw [e] at this
 exact this
end
def ifaceR (E : Env) (t : TypeId) (v : Value) : Option Value := match E.und t with
 | none => none
 | some (.interface _) => none
 | some _ => some (.iface t v)
theorem o_ifaceR {E : Env} {ρ : Operand → Value} {h : Hp} {t : TypeId} {x : Operand} : aop E ρ h (.makeInterface t x) = bK h (ifaceR E t (ρ x)) := rfl
theorem ifaceR_is {E : Env} {t : TypeId} {v : Value} (hu : aQ E t = true) : ifaceR E t v = some (.iface t v) := mk_iface hu
def nilcR : Value → Option Value
 | .pointer (some a) => some (.pointer (some a))
 | .func (.func f) a b => some (.func (.func f) a b)
 | _ => none
theorem o_nilcR {E : Env} {ρ : Operand → Value} {h : Hp} {x : Operand} : aop E ρ h (.nilCheck x) = bK h (nilcR (ρ x)) := rfl
theorem nilcR_ptr {a : Addr} : nilcR (.pointer (some a)) = some (.pointer (some a)) := rfl
def pickR (c a b : Value) : Option Value := match c with
 | .bool t => some (bif t then a else b)
 | _ => none
theorem o_pickR {E : Env} {ρ : Operand → Value} {h : Hp} {c a b : Operand} : aop E ρ h (.pick c a b) = bK h (pickR (ρ c) (ρ a) (ρ b)) := rfl
theorem pick_t {a b : Value} : pickR (.bool true) a b = some a := rfl
theorem pick_f {a b : Value} : pickR (.bool false) a b = some b := rfl
def extrR (i : Nat) : Value → Option Value
 | .tuple vs => vs.toList[i]?
 | _ => none
theorem o_extrR {E : Env} {ρ : Operand → Value} {h : Hp} {x : Operand} {i : Nat} : aop E ρ h (.extract x i) = bK h (extrR i (ρ x)) := by
 rw [o_extract]; rfl
theorem extr_0 {a : Value} {l : List Value} : extrR 0 (.tuple ⟨a :: l⟩) = some a := rfl
theorem extr_1 {a b : Value} {l : List Value} : extrR 1 (.tuple ⟨a :: b :: l⟩) = some b := rfl
theorem extr_2 {a b c : Value} {l : List Value} : extrR 2 (.tuple ⟨a :: b :: c :: l⟩) = some c := rfl
noncomputable def delR (E : Env) (h : Hp) (t : TypeId) (m k : Value) : Option (cJ × Hp) := match iS E h t m k with
 | none => none
 | some h' => some (.val (.tuple #[]), h')
theorem o_delR {E : Env} {ρ : Operand → Value} {h : Hp} {m k : Operand} {t : TypeId} {ts : List TypeId} : aop E ρ h (.call ⟨.builtin .delete, #[m, k], ⟨t :: ts⟩⟩) = delR E h t (ρ m) (ρ k) := rfl
theorem aF {a b : Nat} : ((a : Int) < (b : Int)) = (a < b) := by simp
def BS := And.intro (@run_seq) <| And.intro (@uI) <| And.intro (@r_ops) <| And.intro (@g_true) <| And.intro (@g_false) <| And.intro (@sP) <| And.intro (@run_ret) <| And.intro (@run_nil) <| And.intro (@run_skip) <| And.intro (@run_block) <| And.intro (@run_scope) <| And.intro (@run_blk) <| And.intro (@run_exit) <| And.intro (@rF) <| And.intro (@qU) <| And.intro (@ra) <| And.intro (@tK) <| And.intro (@tZ) <| And.intro (@r_cond) <| And.intro (@c_true) <| And.intro (@c_false) <| And.intro (@r_opsD) <| And.intro (@dn_loud) <| And.intro (@dn_quiet) <| And.intro (@dn_val) <| And.intro (@dn_skip) <| And.intro (@d_skip) <| And.intro (@iY) <| And.intro (@bG) <| And.intro (@bR) <| And.intro (@rC) <| And.intro (@guard_no) <| And.intro (@uy) <| And.intro (@gj_some) <| And.intro (@gv_true) <| And.intro (@gv_false) <| And.intro (@gv_tuple) <| And.intro (@o_move) <| And.intro (@o_assign) <| And.intro (@o_pickR) <| And.intro (@pick_t) <| And.intro (@pick_f) <| And.intro (@o_load) <| And.intro (@o_store) <| And.intro (@o_binOp) <| And.intro (@o_unOp) <| And.intro (@o_nilcR) <| And.intro (@nilcR_ptr) <| And.intro (@o_ifaceR) <| And.intro (@tR) <| And.intro (@o_slice) <| And.intro (@te) <| And.intro (@o_field) <| And.intro (@sU) <| And.intro (@o_index) <| And.intro (@o_extrR) <| And.intro (@extr_0) <| And.intro (@extr_1) <| And.intro (@extr_2) <| And.intro (@o_build) <| And.intro (@rK) <| And.intro (@th) <| And.intro (@uA) <| And.intro (@ru) <| And.intro (@o_convert) <| And.intro (@o_lookup) <| And.intro (@sQ) <| And.intro (@tU) <| And.intro (@si) <| And.intro (@o_allocR) <| And.intro (@o_boxR) <| And.intro (@o_callv) <| And.intro (@o_max) <| And.intro (@o_min) <| And.intro (@o_append) <| And.intro (@o_copy) <| And.intro (@o_lenR) <| And.intro (@o_delR) <| And.intro (@o_recover) <| And.intro (@o_deferR) <| And.intro (@o_panicR) <| And.intro (@tH) <| And.intro (@uu) <| And.intro (@ul) <| And.intro (@tJ) <| And.intro (@qX) <| And.intro (@pZ) <| And.intro (@pz) <| And.intro (@pu) <| And.intro (@pA) <| And.intro (@step_defer) <| And.intro (@target_fn) <| And.intro (@sJ) <| And.intro (@b_add) <| And.intro (@b_sub) <| And.intro (@b_mul) <| And.intro (@b_eql) <| And.intro (@b_neq) <| And.intro (@b_lss) <| And.intro (@b_leq) <| And.intro (@b_gtr) <| And.intro (@b_geq) <| And.intro (@b_eqlB) <| And.intro (@b_neqB) <| And.intro (@same_bool) <| And.intro (@u_not) <| And.intro (@mm_max) <| And.intro (@mm_min) <| And.intro (@ae) <| And.intro (@one1_some) <| And.intro (@agg1_some) <| And.intro (@dk) <| And.intro (@ll_put0) <| And.intro (@cK) <| And.intro (@ll_func) <| And.intro (@c_int) <| And.intro (@c_bool) <| And.intro (@c_string) <| And.intro (@c_nilp) <| And.intro (@c_nils) <| And.intro (@c_nilm) <| And.intro (@c_nilf) <| And.intro (@c_nili) <| And.intro (@ll_regs) <| And.intro (@iR) <| And.intro (@bH) <| And.intro (@bg) <| And.intro (@cv) <| And.intro (@qO) <| And.intro (@rM) <| And.intro (@j8) <| And.intro (@j7) <| And.intro (@hush_s) <| And.intro (@idxP_in) <| And.intro (@ky) <| And.intro (@idx_q) <| And.intro (@tS) <| And.intro (@uK) <| And.intro (@lH) <| And.intro (@idxa_ptr) <| And.intro (@putI_some) <| And.intro (@len_q) <| And.intro (@tM) <| And.intro (@lenq_str) <| And.intro (@lenq_arr) <| And.intro (@tD) <| And.intro (@load_q) <| And.intro (@loadq_f) <| And.intro (@loadq_t) <| And.intro (@n_iface) <| And.intro (@n_nil) <| And.intro (@e_iface) <| And.intro (@e_nil) <| And.intro (@n_ptr) <| And.intro (@e_ptr) <| And.intro (@n_pnil) <| And.intro (@e_pnil) <| And.intro (@e_slice) <| And.intro (@e_snil) <| And.intro (@assert_is) <| And.intro (@ifaceR_is) <| And.intro (@build_q) <| And.intro (@sY) <| And.intro (@aggO_some) <| And.intro (@fill_nil) <| And.intro (@fill_q) <| And.intro (@fills_one) <| And.intro (@fills_agg) <| And.intro (@setL_nil) <| And.intro (@setL_cons) <| And.intro (@aM) <| And.intro (@aT) <| And.intro (@bz) <| And.intro (@aX) <| And.intro (@aw) <| And.intro (@bo) <| And.intro (@aP) <| And.intro (@aV) <| And.intro (@aU) <| (@aK)
end Go.Ab

namespace Go.Ab
structure ItS (h0 : Hp) (D : Nat → Prop) (h : Hp) (F : List Nat) : Prop where
 ok : h.t.Sized h.n
 n : h0.n ≤ h.n
 data : ∀ b, b < h0.n → D b → h.get b = h0.get b
 apart : ∀ b ∈ F, ¬ (b < h0.n ∧ D b)
 lt : ∀ b ∈ F, b < h.n
section
variable {h0 h h' : Hp} {D : Nat → Prop} {F F' : List Nat}
theorem ItS.gr (s : ItS h0 D h F) (g : Gr h h') : ItS h0 D h' F :=
 ⟨g.ok, Nat.le_trans s.n g.n, fun b hb hd => (g.get b (Nat.lt_of_lt_of_le hb s.n)).trans (s.data b hb hd), s.apart, fun b hb => Nat.lt_of_lt_of_le (s.lt b hb) g.n⟩
theorem ItS.mo (s : ItS h0 D h F) (m : Mo (· ∈ F) h h') (hf : ∀ b ∈ F', b ∈ F ∨ h.n ≤ b) (hl : ∀ b ∈ F', b < h'.n) : ItS h0 D h' F' :=
 ⟨m.ok, Nat.le_trans s.n m.n, fun b hb hd => (m.get b (Nat.lt_of_lt_of_le hb s.n) (fun hf => s.apart b hf ⟨hb, hd⟩)).trans (s.data b hb hd),
  fun b hb hd => (hf b hb).elim (fun hb => s.apart b hb hd) (fun hb => by have := s.n; omega), hl⟩
theorem ItS.load (s : ItS h0 D h F) {b o n : Nat} {l : List Value} (ok0 : h0.t.Sized h0.n) (e : h0.load b o n = some l) (hd : D b) : h.load b o n = some l := by
 have := s.data b (cG ok0 e) hd
 unfold Hp.load at e ⊢
 rw [this]; exact e
theorem ItS.sl {α : Type} {k : Nat} {enc : α → List Value} {v : Value} {xs : List α} (s : ItS h0 D h F) (ok0 : h0.t.Sized h0.n) (e : aB h0 k enc v xs) (hd : ∀ b, ax v b → D b) : aB h k enc v xs := by
 rcases e with e | ⟨b, o, s', c, h1, h2, h3⟩
 · exact .inl e
 · exact .inr ⟨b, o, s', c, h1, h2, s.load ok0 h3 (hd b (by rw [h1]; rfl))⟩
end
structure Yld (E : Env) (lb : Nat) (J : Nat → Hp → List Nat → Prop) (Z : Out → Hp → Prop) (xs : List (List Value)) : Prop where
 lt : ∀ i h F, J i h F → h.t.Sized h.n ∧ ∀ b ∈ F, b < h.n
 gr : ∀ i h F h', J i h F → Gr h h' → J i h' F
 zgr : ∀ h h', Z (.ret (.bool false)) h → Gr h h' → Z (.ret (.bool false)) h'
 round : ∀ i x h F, xs[i]? = some x → J i h F → iz E lb x h fun o h' => (o = .ret (.bool true) ∧ ∃ F', J (i + 1) h' F' ∧ Mo (· ∈ F) h h' ∧ ∀ b ∈ F', b ∈ F ∨ h.n ≤ b) ∨ (o = .ret (.bool false) ∧ Z o h' ∧ h'.t.Sized h'.n) ∨ ((∃ v, o = .pan v) ∧ Z o h')
def YQ (J : Nat → Hp → List Nat → Prop) (Z : Out → Hp → Prop) (n : Nat) (o : Out) (rc : Option (Value × Bool)) (h' : Hp) : Prop :=
 rc = none ∧ ((∃ u F', o = .ret u ∧ J n h' F') ∨ (∃ u, o = .ret u ∧ Z (.ret (.bool false)) h') ∨ (∃ v, o = .pan v ∧ Z o h'))
theorem nE {E : Env} {g : FuncId} {pre post : List Value} {h0 : Hp} {D : Nat → Prop} {xs : List (List Value)}
 (H : ∀ lb J Z, Yld E lb J Z xs → ∀ h F, ItS h0 D h F → J 0 h F → d9 E g (pre ++ [.func (.yield lb) #[] #[]] ++ post) none h (YQ J Z xs.length)) : Iter E g pre post h0 D xs := by
 intro lb J Z h F ok hn hd hlt hgr hz ha hr hj
 exact H lb J Z ⟨hlt, hgr, hz, hr⟩ h F ⟨ok, hn, hd, ha, (hlt 0 h F hj).2⟩ hj
theorem sn {E : Env} {g : FuncId} {pre post : List Value} {h0 : Hp} {D : Nat → Prop} {xs : List (List Value)} (H : Iter E g pre post h0 D xs) {lb : Nat} {J : Nat → Hp → List Nat → Prop} {Z : Out → Hp → Prop} (Y : Yld E lb J Z xs)
 {h : Hp} {F : List Nat} (g0 : Mo (fun b => ¬ D b) h0 h) (ha : ∀ b ∈ F, b < h0.n → ¬ D b) (hj : J 0 h F) : d9 E g (pre ++ [.func (.yield lb) #[] #[]] ++ post) none h (YQ J Z xs.length) :=
 H lb J Z h F g0.ok g0.n (fun b hb hd => g0.get b hb (fun hn => hn hd)) Y.lt Y.gr Y.zgr (fun b hb h => ha b hb h.1 h.2) Y.round hj
theorem fK {E : Env} {cx : Cx} {o : Oper} {l : Loc} {K : Ex → Loc → Hp → Prop} {h0 h : Hp} {D : Nat → Prop} {lb i : Nat} {J : Nat → Hp → List Nat → Prop} {Z : Out → Hp → Prop} {xs : List (List Value)} {x : List Value} {F : List Nat}
 (Y : Yld E lb J Z xs) (s : ItS h0 D h F) (hj : J i h F) (hx : xs[i]? = some x)
 (k1 : ∀ h' F', J (i + 1) h' F' → ItS h0 D h' F' → Mo (· ∈ F) h h' → (∀ b ∈ F', b ∈ F ∨ h.n ≤ b) → K .normal (l.put o.dst (.bool true)) h')
 (k2 : ∀ h', Z (.ret (.bool false)) h' → h'.t.Sized h'.n → K .normal (l.put o.dst (.bool false)) h') (k3 : ∀ v h', Z (.pan v) h' → K (.pan v) l h') : dL E cx o l K (some (.yield lb x, h)) := by
 refine oX (Y.round i x h F hx hj) ?_
 rintro q h' (⟨rfl, F', a, b, c⟩ | ⟨rfl, a, b⟩ | ⟨⟨v, rfl⟩, a⟩)
 · exact k1 h' F' a (s.mo b c (Y.lt _ _ _ a).2) b c
 · exact k2 h' a b
 · exact k3 v h' a

section
variable {M : Nat → Prop} {h0 h h' : Hp} {L L' : List (Nat × Ob)} {G G' : List GL}
theorem St.base (S : St M h0 h L G) : St (· ∈ keys L G) h h L G :=
 ⟨Mo.refl S.ok, fun p hp => ⟨.inr (fL hp), (S.own p hp).2⟩, fun p hp => ⟨(S.gown p hp).1, fun b hb => .inr (fV hp hb)⟩, S.apart⟩
theorem St.key_own (S : St M h0 h L G) {b : Nat} (hb : b ∈ keys L G) : h0.n ≤ b ∨ M b := by
 unfold keys at hb
 rcases List.mem_append.1 hb with hb | hb
 · obtain ⟨p, hp, rfl⟩ := List.mem_map.1 hb
   exact (S.own p hp).1
 · obtain ⟨p, hp, hk⟩ := List.mem_filterMap.1 hb
   exact (S.gown p hp).2 b hk
theorem St.rebase (S : St M h0 h L G) (T : St (· ∈ keys L G) h h' L' G') : St M h0 h' L' G' := by
 have hk : ∀ b, h.n ≤ b ∨ b ∈ keys L G → h0.n ≤ b ∨ M b := fun b hb => hb.elim (fun hb => .inl (Nat.le_trans S.fr.n hb)) S.key_own
 exact ⟨S.fr.trans T.fr fun b hb => (S.key_own hb).symm, fun p hp => ⟨hk _ (T.own p hp).1, (T.own p hp).2⟩, fun p hp => ⟨(T.gown p hp).1, fun b hb => hk b ((T.gown p hp).2 b hb)⟩, T.apart⟩
theorem St.key_new (T : St (· ∈ keys L G) h h' L' G') : ∀ b ∈ keys L' G', b ∈ keys L G ∨ h.n ≤ b := fun _ hb => (T.key_own hb).symm
theorem St.sub (S : St M h0 h L G) (hl : L'.Sublist L) (hg : G'.Sublist G) : St M h0 h L' G' :=
 ⟨S.fr, fun p hp => S.own p (hl.subset hp), fun p hp => S.gown p (hg.subset hp), S.apart.sublist ((hl.map _).append (hg.filterMap _))⟩
theorem St.drop1 {x : Nat × Ob} (S : St M h0 h (x :: L) G) : St M h0 h L G := S.sub (List.sublist_cons_self _ _) (List.Sublist.refl _)
end
theorem ja {E : Env} {f : FuncId} {args : List Value} {rc : Option (Value × Bool)} {h : Hp} {P Q : Out → Option (Value × Bool) → Hp → Prop} (hc : d9 E f args rc h P) (hk : ∀ o rc' h', P o rc' h' → Q o rc' h') : d9 E f args rc h Q := by
 obtain ⟨o, rc', h', a, b⟩ := hc; exact ⟨o, rc', h', a, hk _ _ _ b⟩
theorem lC {E : Env} {f : FuncId} {args : List Value} {h : Hp} {P Q : Value → Hp → Prop} (hc : Ret E f args h P) (hk : ∀ v h', P v h' → Q v h') : Ret E f args h Q := Ret.mono hk hc
theorem mS {E : Env} {cx : Cx} {Q : dB} {k : List Fr} {l : Loc} {lb : Nat} {J : Nat → Hp → List Nat → Prop} {n : Nat} {o : Out} {rc : Option (Value × Bool)} {h : Hp} (y : YQ J (fun _ _ => False) n o rc h)
 (hk : ∀ F, J n h F → ∃ x, h.get lb = some (.loop x) ∧ x.st ≠ 1 ∧ RangeGo E cx Q k l (h.put lb .dead) x.pending) : RangeQ E cx Q k l lb o rc h := by
 obtain ⟨_, ⟨u, F, rfl, hj⟩ | ⟨u, _, hz⟩ | ⟨v, _, hz⟩⟩ := y
 · exact hk F hj
 · exact hz.elim
 · exact hz.elim
theorem St.dead {M : Nat → Prop} {h0 h : Hp} {L : List (Nat × Ob)} {G : List GL} {b : Nat} {o : Ob} (S : St M h0 h ((b, o) :: L) G) : St M h0 (h.put b .dead) L G := by
 have hb := S.own _ m0
 refine ⟨S.fr.put hb.1 _, fun p hp => ⟨(S.own p (.tail _ hp)).1, (S.own p (.tail _ hp)).2.of_get (bO fun e => ?_)⟩, fun p hp => ⟨(S.gown p hp).1.of_get fun c hc => bO fun e => ?_, (S.gown p hp).2⟩, (List.nodup_cons.1 S.apart).2⟩
 · exact (List.nodup_cons.1 S.apart).1 (by show b ∈ keys L G; rw [e]; exact fL hp)
 · exact (List.nodup_cons.1 S.apart).1 (by show b ∈ keys L G; rw [e]; exact fV hp hc)
theorem St.get {M : Nat → Prop} {h0 h : Hp} {L : List (Nat × Ob)} {G : List GL} {b : Nat} {x : fg} (S : St M h0 h L G) (hi : (b, Ob.loop x) ∈ L) : h.get b = some (.loop x) := (S.own _ hi).2
theorem St.getD {M : Nat → Prop} {h0 h : Hp} {L : List (Nat × Ob)} {G : List GL} {b : Nat} (S : St M h0 h L G) (hi : (b, Ob.dfr) ∈ L) : h.get b = some .dfr := (S.own _ hi).2

theorem mK {E : Env} {cx : Cx} {Q : dB} {k : List Fr} {n : Nat} {rc : Option (Value × Bool)} {b : Code} {α : Type} (I : α → (Nat → Value) → List Deferred → Hp → Prop) (m : α → Nat)
 (hs : ∀ a, (∀ a' ρ' d' h', m a' < m a → I a' ρ' d' h' → Run E (lim E) cx Q (.code (.loop b) :: k) .normal (LL n ρ' d' rc) h') → ∀ ρ d h, I a ρ d h → Run E (lim E) cx Q (.code b :: .code (.loop b) :: k) .normal (LL n ρ d rc) h) :
 ∀ a ρ d h, I a ρ d h → Run E (lim E) cx Q (.code (.loop b) :: k) .normal (LL n ρ d rc) h := by
 have key : ∀ j a, m a < j → ∀ ρ d h, I a ρ d h → Run E (lim E) cx Q (.code (.loop b) :: k) .normal (LL n ρ d rc) h := by
  intro j
  induction j with
  | zero => intro a ha; omega
  | succ j ih =>
    intro a ha ρ d h hi
    rw [ce]
    exact hs a (fun a' ρ' d' h' hlt hi' => ih a' (by omega) ρ' d' h' hi') ρ d h hi
 intro a ρ d h hi
 exact key (m a + 1) a (by omega) ρ d h hi
def dr (dbs : List Nat) : List (Nat × Ob) := dbs.map fun b => (b, Ob.dfr)
theorem ly {E : Env} {M : Nat → Prop} {h0 : Hp} {L : List (Nat × Ob)} {G : List GL} {m : Option Value} {P : Option Value → Hp → Prop} : ∀ (dbs : List Nat) (h : Hp), St M h0 h (dr dbs ++ L) G → (∀ h', St M h0 h' L G → P m h') → UnQ E (dbs.map my) m h P
 | [], h, S, hp => dN (hp h S)
 | b :: dbs, h, S, hp => un_dfr (S.getD m0) (ly dbs _ (S.dead) hp)

theorem nw {E : Env} {n : Nat} {ρ : Nat → Value} {h : Hp} {t : Tmp} {ty : TypeId} {v : Value} (ht : t < n) (hv : dz E h ty (ρ t) = some v) : aN E (tab n ρ) h [.cell t ty] = some [v] := by
 simp only [aN, iR, if_pos ht, hv]
theorem uq {E : Env} {h : Hp} {t : TypeId} {b o : Nat} {s : Option Nat} {v : Value} (ha : E.agg t = some false) (hl : h.load b o 1 = some [v]) : dz E h t (.pointer (some ⟨b, o, s⟩)) = some v := by
 rw [load_q, ha, loadq_f, hl]; rfl
theorem eK {E : Env} {h : Hp} {t : TypeId} {b o n : Nat} {s : Option Nat} {l : List Value} (ha : E.agg t = some true) (hs : E.sz t = some n) (hl : h.load b o n = some l) : dz E h t (.pointer (some ⟨b, o, s⟩)) = some (.agg ⟨l⟩) := by
 rw [load_q, ha, hs, loadq_t, hl]; rfl

theorem St.call1 {M : Nat → Prop} {h0 h h' : Hp} {L : List (Nat × Ob)} {G : List GL} (S : St M h0 h L G) {i b : Nat} {o o' : Ob} (hi : L[i]? = some (b, o)) (f : Mo (· = b) h h') (ho : Has h' b o') : St M h0 h' (L.set i (b, o')) G := by
 have hb := S.own _ (List.mem_of_getElem? hi)
 have hkey : (keys L G)[i]? = some b := j9 hi
 refine ⟨S.fr.trans f (fun c hc => by subst hc; exact hb.1.symm), fun p hp => ?_, fun p hp => ⟨(S.gown p hp).1.of_get fun c hc => ?_, (S.gown p hp).2⟩, ?_⟩
 · rcases iP hp with rfl | ⟨j, hj, hp⟩
   · exact ⟨hb.1, ho⟩
   · have h1 := S.own p (List.mem_of_getElem? hp)
     refine ⟨h1.1, h1.2.of_get (f.get _ (h1.2.lt S.ok) fun e => hj ?_)⟩
     have h2 : (keys L G)[j]? = some b := by rw [j9 hp]; rw [e]
     exact kI S.apart h2 hkey
 · refine f.get c ((S.gown p hp).1.lt S.ok hc) fun e => ?_
   subst e
   have h1 := S.apart
   unfold keys at h1
   rw [List.nodup_append] at h1
   exact h1.2.2 c (List.mem_map.2 ⟨_, List.mem_of_getElem? hi, rfl⟩) c (List.mem_filterMap.2 ⟨p, hp, hc⟩) rfl
 · have : keys (L.set i (b, o')) G = keys L G := by
    unfold keys
    congr 1
    rw [List.map_set]
    refine List.ext_getElem? fun j => ?_
    rw [List.getElem?_set]
    split
    · rename_i e; subst e
      have := (List.getElem?_eq_some_iff.1 hi).1
      rw [if_pos (by simpa using this), List.getElem?_map, hi]; rfl
    · rfl
   rw [this]; exact S.apart
theorem St.init1 {h : Hp} (ok : h.t.Sized h.n) {b : Nat} {o : Ob} (ho : Has h b o) : St (· = b) h h [(b, o)] [] := (St.init ok).push (.inr rfl) ho (by simp [keys])
theorem wrap8 (z : Int) : 0 ≤ au .u8 z ∧ au .u8 z < 256 := by
 unfold au
 cases z with
 | ofNat m =>
   simp only [hf, sgn, pw]
   cases hb : Nat.blt m 256 with
   | true =>
     rw [Nat.blt_eq] at hb
     simp only [cond_true]
     exact ⟨Int.natCast_nonneg m, Int.ofNat_lt.2 hb⟩
   | false =>
     simp only [cond_false]
     exact ⟨Int.natCast_nonneg _, Int.ofNat_lt.2 (Nat.mod_lt _ (by omega))⟩
 | negSucc m =>
   simp only [hf, sgn, pw, cond_false]
   exact ⟨Int.natCast_nonneg _, Int.ofNat_lt.2 (show 256 - 1 - m % 256 < 256 by omega)⟩
theorem bL {tr : List (Nat × Tch)} {i j : Nat} {l : List (Nat × Nat)} : dv tr ((i, j) :: l) = (gf (bN i tr) (bN j tr) && dv tr l) := rfl
theorem aS {a : Nat} {h h' : Hp} (e : leaves h h' a = true) : gf (some (.blk a)) (some (.run h h')) = true := e
theorem bn {a : Nat} {h h' : Hp} (e : leaves h h' a = true) : gf (some (.run h h')) (some (.blk a)) = true := e
theorem iM {a b : Nat} (e : a ≠ b) : gf (some (.blk a)) (some (.blk b)) = true := by
 simp only [gf]
 cases hb : Nat.beq a b with
 | false => rfl
 | true => exact absurd (Nat.eq_of_beq_eq_true hb) e
theorem bU {i : Nat} {b : Tch} {l : List (Nat × Tch)} : bN i ((i, b) :: l) = some b := by simp [bN, Nat.beq_refl]
theorem bF {i k : Nat} {b : Tch} {l : List (Nat × Tch)} (h : i ≠ k) : bN i ((k, b) :: l) = bN i l := by
 have h : Nat.beq i k = false := by rw [ct]; simpa using h
 simp [bN, h]
theorem St.leaves {M : Nat → Prop} {h0 h h' : Hp} {L : List (Nat × Ob)} {G : List GL} (S : St M h0 h L G) {b c : Nat} {o : Ob} (hm : (c, o) ∈ L) (f : Mo (· = b) h h') (hn : c ≠ b) : leaves h h' c = true :=
 nW (f.get c ((S.own _ hm).2.lt S.ok) hn)

theorem bC {i k : Nat} {x : Option Tch} {tr : List (Nat × Tch)} (h : i ≠ k) : bN i (eA k tr x) = bN i tr := by
 cases x with
 | none => rfl
 | some b => exact bF h
theorem bW {ρ : Operand → Value} {b : Bool} {t : TypeId} {a : Operand} {h h' : Hp} : bZ ρ b (.load t a) h h' = (match ρ a with | .pointer (some a) => some (.blk a.block) | _ => none) := by
 simp only [bZ, da, gR, dG, touch, cond_false]
 cases ρ a <;> first | rfl | (rename_i x; cases x <;> rfl)
theorem cB {ρ : Operand → Value} {f : Operand} {as : Array Operand} {ts : Array TypeId} {h h' : Hp} : bZ ρ false (.call ⟨.value f, as, ts⟩) h h' = some (.run h h') := rfl
theorem bJ {ρ : Operand → Value} {b : Bool} {t : TypeId} {h h' : Hp} : bZ ρ b (.alloc t) h h' = some (.blk h.n) := rfl

theorem St.gset {M : Nat → Prop} {h0 h : Hp} {L : List (Nat × Ob)} {G : List GL} (S : St M h0 h L G) {E : Env} {t : TypeId} {j i : Nat} {v : Value} {vs : List Value} {kd : IntKind} (hj : G[j]? = some (v, 1, vs)) (hi : i < vs.length) (hs : E.sz t = some 1) :
 ∃ b, idxS (some 1) v (.int kd i) = some (.pointer (some ⟨b, i, none⟩)) ∧ ∀ x, Fl x → ∃ h', eW E h t (.pointer (some ⟨b, i, none⟩)) x = some h' ∧ St M h0 h' L (G.set j (v, 1, vs.set i x)) := by
 obtain ⟨hg, hown⟩ := S.gown _ (List.mem_of_getElem? hj)
 rcases hg with ⟨_, k2⟩ | ⟨b, n, k1, k2, k3⟩
 · simp only [] at k2; subst k2; simp at hi
 · simp only [] at k1 k2 k3
   subst k1
   have hn : n = vs.length := by omega
   refine ⟨b, ?_, fun x hx => ?_⟩
   · rw [lH, ky (by omega)]
     simp [putI]
   · obtain ⟨y, h1, h2⟩ := k3.store S.ok Nat.one_ne_zero (o := i) (vs := [x]) (by simp; omega) (by simp [hx.2.1])
     have e : lay vs i [x] = vs.set i x := by
      refine List.ext_getElem? fun j => ?_
      rw [gu (by simp; omega), List.getElem?_set]
      simp only [List.length_cons, List.length_nil]
      by_cases hij : i = j
      · subst hij; rw [if_pos ⟨Nat.le_refl _, by omega⟩, if_pos rfl, if_pos hi]; simp
      · rw [if_neg (by omega), if_neg hij]
     rw [e] at h2
     refine ⟨h.put b y, ?_, ?_⟩
     · have : eW E h t (.pointer (some ⟨b, i, none⟩)) x = h.store b i [x] := by
        simp only [eW, hs]
        have hv : an x = [x] := hx.1
        have h5 : (bif Nat.beq (an x).length 1 then h.store b i (an x) else none) = h.store b i [x] := by rw [hv]; rfl
        revert h5
        cases x <;> first | exact fun h => h | exact absurd rfl (hx.2.2 _)
       rw [this]; exact h1
     · have hkey : dY (Value.slice (some ⟨b, 0, some 1⟩) n n, 1, vs) = some b := rfl
       have hb := hown b hkey
       have hlt := (List.getElem?_eq_some_iff.1 hj).1
       have hL : ∀ c ∈ L.map Prod.fst, c ≠ b := fun c hc e => by
        have h1 := S.apart
        unfold keys at h1
        rw [List.nodup_append] at h1
        exact h1.2.2 c hc b (List.mem_filterMap.2 ⟨_, List.mem_of_getElem? hj, hkey⟩) e
       have hkeys : keys L (G.set j (Value.slice (some ⟨b, 0, some 1⟩) n n, 1, vs.set i x)) = keys L G := by
        unfold keys
        congr 1
        have : ∀ (G : List GL) (j : Nat) (p q : GL), G[j]? = some p → dY q = dY p → (G.set j q).filterMap dY = G.filterMap dY := by
         intro G
         induction G with
         | nil => intro j p q hj; simp at hj
         | cons g G ih =>
           intro j p q hj hq
           cases j with
           | zero => simp at hj; subst hj; simp [List.filterMap_cons, hq]
           | succ j => simp at hj; simp only [List.set_cons_succ, List.filterMap_cons, ih j p q hj hq]
        exact this G j _ _ hj rfl
       refine ⟨S.fr.put hb y, fun p hp => ⟨(S.own p hp).1, (S.own p hp).2.of_get (bO fun e => hL _ (List.mem_map_of_mem hp) e.symm)⟩, fun p hp => ?_, by rw [hkeys]; exact S.apart⟩
       rcases iP hp with rfl | ⟨j', hj', hp⟩
       · exact ⟨.inr ⟨b, n, rfl, by simpa using k2, h2⟩, fun c hc => by cases hc; exact hb⟩
       · refine ⟨(S.gown p (List.mem_of_getElem? hp)).1.of_get fun c hc => bO fun e => hj' ?_, (S.gown p (List.mem_of_getElem? hp)).2⟩
         subst e
         have h2 := S.apart
         unfold keys at h2
         have h3 := (List.nodup_append.1 h2).2.1
         have key : ∀ (G : List GL) (a c : Nat) (p q : GL), (G.filterMap dY).Nodup → G[a]? = some p → G[c]? = some q → ∀ x, dY p = some x → dY q = some x → a = c := by
          intro G
          induction G with
          | nil => intro a c p q _ ha; simp at ha
          | cons g G ih =>
            intro a c p q hn ha hc x hp hq
            have hn' : (G.filterMap dY).Nodup := by
             rw [List.filterMap_cons] at hn
             split at hn
             · exact hn
             · exact (List.nodup_cons.1 hn).2
            cases a with
            | zero =>
              cases c with
              | zero => rfl
              | succ c =>
                simp at ha hc
                subst ha
                rw [List.filterMap_cons_some hp] at hn
                exact absurd (List.mem_filterMap.2 ⟨q, List.mem_of_getElem? hc, hq⟩) (List.nodup_cons.1 hn).1
            | succ a =>
              cases c with
              | zero =>
                simp at ha hc
                subst hc
                rw [List.filterMap_cons_some hq] at hn
                exact absurd (List.mem_filterMap.2 ⟨p, List.mem_of_getElem? ha, hp⟩) (List.nodup_cons.1 hn).1
              | succ c =>
                simp at ha hc
                rw [ih a c p q hn' ha hc x hp hq]
         exact key G j' j p _ h3 hp hj b hc hkey

def JP (n : Nat) (d : List Deferred) (rc : Option (Value × Bool)) (J : (Nat → Value) → Hp → Prop) : dB := fun e l h => e = .normal ∧ ∃ ρ, l = LL n ρ d rc ∧ J ρ h
theorem rW {E : Env} {cx : Cx} {Q : dB} {k : List Fr} {n : Nat} {d : List Deferred} {rc : Option (Value × Bool)} {J : (Nat → Value) → Hp → Prop} {c : Code} {l : Loc} {h : Hp}
 (hc : Run E (lim E) cx (JP n d rc J) [.code c] .normal l h) (hJ : ∀ ρ h, J ρ h → Run E (lim E) cx Q k .normal (LL n ρ d rc) h) : Run E (lim E) cx Q (.code c :: k) .normal l h := by
 obtain ⟨e', l', h', h1, h2⟩ := hc
 obtain ⟨rfl, ρ, rfl, h3⟩ := h2
 exact ⟨_, _, _, h1, hJ ρ h' h3⟩
theorem uj {E : Env} {cx : Cx} {Q : dB} {k : List Fr} {n : Nat} {d : List Deferred} {rc : Option (Value × Bool)} (J : (Nat → Value) → Hp → Prop) {a b : Code} {ρ0 : Nat → Value} {h : Hp} {t : Bool}
 (h1 : t = true → Run E (lim E) cx (JP n d rc J) [.code a] .normal (LL n ρ0 d rc) h) (h2 : t = false → Run E (lim E) cx (JP n d rc J) [.code b] .normal (LL n ρ0 d rc) h)
 (hJ : ∀ ρ h, J ρ h → Run E (lim E) cx Q k .normal (LL n ρ d rc) h) : CStep E cx Q a b k (LL n ρ0 d rc) h (.bool t) := by
 cases t with
 | true => exact rW (h1 rfl) hJ
 | false => exact rW (h2 rfl) hJ
theorem gV {n : Nat} {d : List Deferred} {rc : Option (Value × Bool)} {J : (Nat → Value) → Hp → Prop} {ρ : Nat → Value} {h : Hp} (hj : J ρ h) : JP n d rc J .normal (LL n ρ d rc) h := ⟨rfl, ρ, rfl, hj⟩

theorem nD {E : Env} {R : Rec} {cx : Cx} {Q : dB} {k2 : List Fr} : ∀ (k1 : List Fr) (e : Ex) (l : Loc) (h : Hp), Run E R cx (fun e l h => Run E R cx Q k2 e l h) k1 e l h → Run E R cx Q (k1 ++ k2) e l h
 | [], e, l, h, hr => hr
 | f :: k1, e, l, h, hr => by
   have ih := nD (E := E) (R := R) (cx := cx) (Q := Q) (k2 := k2) k1
   cases f with
   | code c =>
     cases e with
     | normal => obtain ⟨e', l', h', a, b⟩ := hr; exact ⟨e', l', h', a, ih _ _ _ b⟩
     | exit i => exact ih _ _ _ hr
     | ret => exact ih _ _ _ hr
     | pan v => exact ih _ _ _ hr
   | blk id =>
     cases e with
     | normal => exact ih _ _ _ hr
     | exit i =>
       simp only [Run, List.cons_append] at hr ⊢
       by_cases hi : i = id
       · rw [if_pos hi] at hr ⊢; exact ih _ _ _ hr
       · rw [if_neg hi] at hr ⊢; exact ih _ _ _ hr
     | ret => exact ih _ _ _ hr
     | pan v => exact ih _ _ _ hr
   | ops a os =>
     cases e with
     | normal => obtain ⟨e', l', h', a, b⟩ := hr; exact ⟨e', l', h', a, ih _ _ _ b⟩
     | exit i => exact ih _ _ _ hr
     | ret => exact ih _ _ _ hr
     | pan v => exact ih _ _ _ hr
   | opsD a q ps os i tr =>
     cases e with
     | normal => obtain ⟨l', h', tr', a, b, c⟩ := hr; exact ⟨l', h', tr', a, b, ih _ _ _ c⟩
     | exit i => exact ih _ _ _ hr
     | ret => exact ih _ _ _ hr
     | pan v => exact ih _ _ _ hr
theorem run_post {E : Env} {R : Rec} {cx : Cx} {Q Q' : dB} (hq : ∀ e l h, Q e l h → Q' e l h) : ∀ (k : List Fr) (e : Ex) (l : Loc) (h : Hp), Run E R cx Q k e l h → Run E R cx Q' k e l h
 | k, e, l, h, hr => by
   have := nD (E := E) (R := R) (cx := cx) (Q := Q') (k2 := []) k e l h
   rw [List.append_nil] at this
   refine this ?_
   revert hr
   induction k generalizing e l h with
   | nil => intro hr; exact hq _ _ _ hr
   | cons f k ih =>
     intro hr
     have ih := fun e l h hr => ih e l h (by have := nD (E := E) (R := R) (cx := cx) (Q := Q') (k2 := []) k e l h; rwa [List.append_nil] at this) hr
     cases f with
     | code c =>
       cases e with
       | normal => obtain ⟨e', l', h', a, b⟩ := hr; exact ⟨e', l', h', a, ih _ _ _ b⟩
       | exit i => exact ih _ _ _ hr
       | ret => exact ih _ _ _ hr
       | pan v => exact ih _ _ _ hr
     | blk id =>
       cases e with
       | normal => exact ih _ _ _ hr
       | exit i =>
         simp only [Run] at hr ⊢
         by_cases hi : i = id
         · rw [if_pos hi] at hr ⊢; exact ih _ _ _ hr
         · rw [if_neg hi] at hr ⊢; exact ih _ _ _ hr
       | ret => exact ih _ _ _ hr
       | pan v => exact ih _ _ _ hr
     | ops a os =>
       cases e with
       | normal => obtain ⟨e', l', h', a, b⟩ := hr; exact ⟨e', l', h', a, ih _ _ _ b⟩
       | exit i => exact ih _ _ _ hr
       | ret => exact ih _ _ _ hr
       | pan v => exact ih _ _ _ hr
     | opsD a q ps os i tr =>
       cases e with
       | normal => obtain ⟨l', h', tr', a, b, c⟩ := hr; exact ⟨l', h', tr', a, b, ih _ _ _ c⟩
       | exit i => exact ih _ _ _ hr
       | ret => exact ih _ _ _ hr
       | pan v => exact ih _ _ _ hr
theorem lW {E : Env} {cx : Cx} {Q : dB} {k : List Fr} {n : Nat} {d : List Deferred} {rc : Option (Value × Bool)} {b : Code} {id : Nat} {α : Type} (J : (Nat → Value) → Hp → Prop) (I : α → (Nat → Value) → Hp → Prop) (m : α → Nat)
 (hs : ∀ a, (∀ a' ρ' h', m a' < m a → I a' ρ' h' → Run E (lim E) cx (JP n d rc J) [.code (.loop b), .blk id] .normal (LL n ρ' d rc) h') → ∀ ρ h, I a ρ h → Run E (lim E) cx (JP n d rc J) [.code b, .code (.loop b), .blk id] .normal (LL n ρ d rc) h)
 (hJ : ∀ ρ h, J ρ h → Run E (lim E) cx Q k .normal (LL n ρ d rc) h) (a : α) {ρ : Nat → Value} {h : Hp} (hi : I a ρ h) : Run E (lim E) cx Q (.code (.loop b) :: .blk id :: k) .normal (LL n ρ d rc) h := by
 have h1 := bE I m hs a ρ h hi
 refine nD [.code (.loop b), .blk id] _ _ _ (run_post (fun e l h hj => ?_) _ _ _ _ h1)
 obtain ⟨rfl, ρ, rfl, hj⟩ := hj
 exact hJ ρ h hj

theorem qz {ops : List Oper} {ord : List Nat} {os : List Oper} (h1 : (ops.any mZ && ops.all (kZ ops.length)) = true) (h2 : ordL ops = ord) (h3 : eQ ops ord ord = os) : dy ops = os := by unfold dy; rw [h1, h2, h3]; rfl
theorem St.gblk {M : Nat → Prop} {h0 h : Hp} {L : List (Nat × Ob)} {G : List GL} (S : St M h0 h L G) {p : GL} (hp : p ∈ G) {c : Nat} (hb : ax p.1 c) : (h0.n ≤ c ∨ M c) ∧ c ∉ L.map Prod.fst := by
 have hk : dY p = some c := by
  rcases (S.gown p hp).1 with ⟨e, _⟩ | ⟨b, n, e, _⟩
  · rw [e] at hb; exact hb.elim
  · obtain ⟨v, k, vs⟩ := p
    simp only [] at e hb
    subst e
    exact congrArg some hb
 refine ⟨(S.gown p hp).2 c hk, fun hc => ?_⟩
 have h1 := S.apart
 unfold keys at h1
 rw [List.nodup_append] at h1
 exact h1.2.2 c hc c (List.mem_filterMap.2 ⟨p, hp, hk⟩) rfl
end Go.Ab

namespace Go.Ab
structure Arc where
 s : Nat
 t : Nat
 w : Nat
deriving Inhabited
def cP (a : Arc) : List Value := [.int .i64 a.s, .int .i64 a.t, .int .i64 a.w]
theorem eY (a : Arc) : (cP a).length = 3 := rfl
structure Gra where
 nodes : Nat
 X : List Int
 Y : List Int
 arcs : List Arc
structure Good (g : Gra) : Prop where
 n1 : 1 ≤ g.nodes
 n2 : g.nodes ≤ 12
 lX : g.X.length = g.nodes
 lY : g.Y.length = g.nodes
 cX : ∀ x ∈ g.X, -2147483648 ≤ x ∧ x ≤ 2147483647
 cY : ∀ x ∈ g.Y, -2147483648 ≤ x ∧ x ≤ 2147483647
 many : g.arcs.length ≤ 100
 arcs : ∀ a ∈ g.arcs, a.s < g.nodes ∧ a.t < g.nodes ∧ a.w ≤ 2147483647
structure cL (h : Hp) (vx vy va : Value) (g : Gra) : Prop where
 X : aB h 1 (encI .i64) vx g.X
 Y : aB h 1 (encI .i64) vy g.Y
 A : aB h 3 cP va g.arcs
theorem cL.gr {h h' : Hp} {vx vy va : Value} {g : Gra} (a : cL h vx vy va g) (r : Gr h h') : cL h' vx vy va g := ⟨a.X.gr r, a.Y.gr r, a.A.gr r⟩
def gU (g : Gra) (vx vy va : Value) : Value := .agg ⟨[.int .i64 g.nodes, vx, vy, va]⟩
structure Pl where
 i : Int
 f : Int
 c : Int
 n : Int
 lo : Int
 hi : Int
def gJ (p : Pl) : List Value := [.int .i64 p.i, .int .i64 p.f, .int .i64 p.c, .int .i64 p.n, .int .i64 p.lo, .int .i64 p.hi]
theorem encP_len (p : Pl) : (gJ p).length = 6 := rfl
end Go.Ab
