/- Nets, cells, flags: what the functions do (part 3). -/
import Derived.Test.YtnnimodkmjedaaaGreatDoorNetB
set_option maxHeartbeats 4000000
set_option linter.defProp false
set_option linter.unusedVariables false
set_option linter.unusedSimpArgs false
section
namespace Go.Ab
structure Ev where
 kind : Nat
 id : Nat
 lab : Nat
def c9 (e : Ev) : List Value := [.int .i64 e.kind, .int .i64 0, .int .i64 e.id, .int .i64 e.lab]
theorem gD (e : Ev) : (c9 e).length = 4 := rfl
structure SS where
 K : Nat → Option Int
 L : Nat → Nat
 P : Nat → List Nat
 O : List Nat
 ev : List Ev
structure Fd where
 dist : Nat
 arcs : List Nat
 ev : List Ev
def Pops (K : Nat → Option Int) (v : Nat) (k : Int) : Prop := K v = some k ∧ ∀ u k', K u = some k' → k < k' ∨ (k = k' ∧ v ≤ u)
theorem Pops.uniq {K : Nat → Option Int} {v u : Nat} {k k' : Int} (h : Pops K v k) (g : Pops K u k') : v = u ∧ k = k' := by
 have a := h.2 _ _ g.1
 have b := g.2 _ _ h.1
 omega
def io (P : Nat → List Nat) (v : Nat) (l : List Nat) : Nat → List Nat := fun u => if u = v then l else P u
def dF (pi : Nat → Int) (σ : SS) (v lab : Nat) (p : List Nat) : SS :=
 if v ∈ σ.O ∨ (FAR : Int) ≤ pi v ∨ ((σ.K v).isSome = true ∧ σ.L v ≤ lab) then σ else ⟨dI σ.K v (some (lab + pi v)), cy σ.L v lab, io σ.P v p, σ.O, σ.ev⟩
def cm (σ : SS) (v : Nat) : SS := ⟨dI σ.K v none, σ.L, σ.P, σ.O ++ [v], σ.ev ++ [⟨0, v, σ.L v⟩]⟩
def evS (σ : SS) (e : Ev) : SS := ⟨σ.K, σ.L, σ.P, σ.O, σ.ev ++ [e]⟩
def scan1 (A : List Arc) (al : Nat → Bool) (pi : Nat → Int) (v : Nat) (σ : SS) (a : Nat) : SS :=
 if al a = true then dF pi (evS σ ⟨1, a, 0⟩) (A.getD a default).t (σ.L v + (A.getD a default).w) (a :: σ.P v) else σ
def kx (A : List Arc) (al : Nat → Bool) (pi : Nat → Int) (v : Nat) (σ : SS) : SS := (outs A Arc.s A.length v).foldl (scan1 A al pi v) σ
def iB (pi : Nat → Int) (s : Nat) : SS := dF pi ⟨fun _ => none, fun _ => 0, fun _ => [], [], []⟩ s 0 []
inductive Ends (A : List Arc) (al : Nat → Bool) (pi : Nat → Int) (to : Nat) : SS → Fd → Prop where
 | none {σ : SS} : (∀ v, σ.K v = none) → Ends A al pi to σ ⟨FAR, [], σ.ev⟩
 | hit {σ : SS} {k : Int} : Pops σ.K to k → Ends A al pi to σ ⟨σ.L to, (σ.P to).reverse, (cm σ to).ev⟩
 | step {σ : SS} {v : Nat} {k : Int} {r : Fd} : Pops σ.K v k → v ≠ to → Ends A al pi to (kx A al pi v (cm σ v)) r → Ends A al pi to σ r
theorem Ends.uniq {A : List Arc} {al : Nat → Bool} {pi : Nat → Int} {to : Nat} {σ : SS} {r q : Fd} (h : Ends A al pi to σ r) (g : Ends A al pi to σ q) : r = q := by
 induction h with
 | none hn =>
   cases g with
   | none _ => rfl
   | hit hp => have := hp.1; rw [hn] at this; cases this
   | step hp _ _ => have := hp.1; rw [hn] at this; cases this
 | hit hp =>
   cases g with
   | none hn => have := hp.1; rw [hn] at this; cases this
   | hit _ => rfl
   | step hq hne _ => exact absurd (hq.uniq hp).1 hne
 | step hp hne _ ih =>
   cases g with
   | none hn => have := hp.1; rw [hn] at this; cases this
   | hit hq => exact absurd (hp.uniq hq).1 hne
   | step hq _ hg =>
     obtain ⟨rfl, _⟩ := hp.uniq hq
     exact ih hg
section
variable {A : List Arc} {N s : Nat} {al : Nat → Bool} {pi : Nat → Int} {σ : SS}
structure Sv (A : List Arc) (N s : Nat) (al : Nat → Bool) (pi : Nat → Int) (σ : SS) : Prop where
 nd : σ.O.Nodup
 lt : ∀ v ∈ σ.O, v < N
 op : ∀ v k, σ.K v = some k → v < N ∧ v ∉ σ.O ∧ pi v < (FAR : Int) ∧ k = σ.L v + pi v
 bd : ∀ v, σ.L v ≤ σ.O.length * dq ∧ (σ.P v).length ≤ σ.O.length
 pc : ∀ v ∈ σ.O, pi v < (FAR : Int)
 path : ∀ v, (v ∈ σ.O ∨ σ.K v ≠ none) → (v = s ∧ σ.P v = [] ∧ σ.L v = 0) ∨ ∃ a, a < A.length ∧ al a = true ∧ (A.getD a default).t = v ∧ (A.getD a default).s ∈ σ.O ∧ σ.P v = a :: σ.P (A.getD a default).s ∧ σ.L v = σ.L (A.getD a default).s + (A.getD a default).w
theorem Sv.len (h : Sv A N s al pi σ) : σ.O.length ≤ N := lG N σ.O h.nd h.lt
theorem Sv.evS (h : Sv A N s al pi σ) (e : Ev) : Sv A N s al pi (evS σ e) := ⟨h.nd, h.lt, h.op, h.bd, h.pc, h.path⟩
theorem sv_init (hs : s < N) : Sv A N s al pi (iB pi s) := by
 unfold iB dF
 have z : Sv A N s al pi ⟨fun _ => none, fun _ => 0, fun _ => [], [], []⟩ :=
  ⟨.nil, fun v h => (by cases h), fun v k h => (by cases h), fun v => ⟨Nat.zero_le _, Nat.zero_le _⟩, fun v h => (by cases h), fun v h => h.elim (fun h => by cases h) (fun h => absurd rfl h)⟩
 split
 · exact z
 · rename_i hc
   simp only [not_or] at hc
   refine ⟨.nil, fun v h => (by cases h), fun v k h => ?_, fun v => ⟨?_, ?_⟩, fun v h => (by cases h), fun v h => ?_⟩
   · simp only [dI, cy] at h ⊢
     split at h
     · rename_i e; subst e; cases h
       exact ⟨hs, by simp, by omega, by simp⟩
     · cases h
   · simp only [cy]; split <;> simp
   · simp only [io]; split <;> simp
   · by_cases e : v = s
     · subst e; exact .inl ⟨rfl, by simp [io], by simp [cy]⟩
     · simp [dI, e] at h
structure iu (σ τ : SS) : Prop where
 O : τ.O = σ.O
 L : ∀ u ∈ σ.O, τ.L u = σ.L u
 P : ∀ u ∈ σ.O, τ.P u = σ.P u
theorem iu.refl : iu σ σ := ⟨rfl, fun _ _ => rfl, fun _ _ => rfl⟩
theorem iu.trans {τ υ : SS} (h : iu σ τ) (g : iu τ υ) : iu σ υ :=
 ⟨g.O.trans h.O, fun u hu => (g.L u (by rw [h.O]; exact hu)).trans (h.L u hu), fun u hu => (g.P u (by rw [h.O]; exact hu)).trans (h.P u hu)⟩
theorem Sv.reach (h : Sv A N s al pi σ) {a lab v : Nat} {p : List Nat} (ha : a < A.length) (hal : al a = true) (ht : (A.getD a default).t = v) (hN : v < N) (hs : (A.getD a default).s ∈ σ.O) (hl : lab = σ.L (A.getD a default).s + (A.getD a default).w) (hp : p = a :: σ.P (A.getD a default).s)
 (b1 : lab ≤ σ.O.length * dq) (b2 : p.length ≤ σ.O.length) : Sv A N s al pi (dF pi σ v lab p) ∧ iu σ (dF pi σ v lab p) := by
 unfold dF
 split
 · exact ⟨h, .refl⟩
 · rename_i hc
   simp only [not_or] at hc
   obtain ⟨c1, c2, c3⟩ := hc
   have q : ∀ u ∈ σ.O, u ≠ v := fun u hu e => c1 (by subst e; exact hu)
   refine ⟨⟨h.nd, h.lt, fun u k hk => ?_, fun u => ⟨?_, ?_⟩, h.pc, fun u hu => ?_⟩, ⟨rfl, fun u hu => by simp [cy, q u hu], fun u hu => by simp [io, q u hu]⟩⟩
   · simp only [dI, cy] at hk ⊢
     split at hk
     · rename_i e; subst e; cases hk
       exact ⟨hN, c1, by omega, by simp⟩
     · rename_i e
       rw [if_neg e]; exact h.op u k hk
   · simp only [cy]; split
     · exact b1
     · exact (h.bd u).1
   · simp only [io]; split
     · exact b2
     · exact (h.bd u).2
   · have e1 : cy σ.L v lab (A.getD a default).s = σ.L (A.getD a default).s := if_neg (q _ hs)
     have e2 : io σ.P v p (A.getD a default).s = σ.P (A.getD a default).s := if_neg (q _ hs)
     by_cases e : u = v
     · subst e
       refine .inr ⟨a, ha, hal, ht, hs, ?_, ?_⟩
       · show io σ.P u p u = a :: io σ.P u p (A.getD a default).s
         rw [e2, ← hp]; exact if_pos rfl
       · show cy σ.L u lab u = cy σ.L u lab (A.getD a default).s + (A.getD a default).w
         rw [e1, ← hl]; exact if_pos rfl
     · have hu' : u ∈ σ.O ∨ σ.K u ≠ none := by simpa [dI, e] using hu
       rcases h.path u hu' with ⟨k1, k2, k3⟩ | ⟨b, k1, k2, k3, k4, k5, k6⟩
       · exact .inl ⟨k1, by simp [io, e, k2], by simp [cy, e, k3]⟩
       · refine .inr ⟨b, k1, k2, k3, k4, ?_, ?_⟩
         · simp only [io, if_neg e, if_neg (q _ k4)]; exact k5
         · simp only [cy, if_neg e, if_neg (q _ k4)]; exact k6
theorem Sv.close (h : Sv A N s al pi σ) {v : Nat} {k : Int} (hk : σ.K v = some k) : Sv A N s al pi (cm σ v) := by
 obtain ⟨o1, o2, o3, o4⟩ := h.op v k hk
 have hl : (σ.O ++ [v]).length * dq = σ.O.length * dq + dq := by rw [List.length_append, List.length_singleton, Nat.succ_mul]
 refine ⟨?_, fun u hu => ?_, fun u k' hu => ?_, fun u => ⟨?_, ?_⟩, fun u hu => ?_, fun u hu => ?_⟩
 · show (σ.O ++ [v]).Nodup
   rw [List.nodup_append]
   exact ⟨h.nd, by simp, fun a ha b hb e => o2 (by simp at hb; subst hb; subst e; exact ha)⟩
 · rcases List.mem_append.1 hu with hu | hu
   · exact h.lt u hu
   · simp at hu; subst hu; exact o1
 · simp only [cm, dI] at hu ⊢
   split at hu
   · cases hu
   · rename_i e
     obtain ⟨a, b, c, d⟩ := h.op u k' hu
     exact ⟨a, by simp [b, e], c, d⟩
 · show σ.L u ≤ (σ.O ++ [v]).length * dq
   rw [hl]; have := (h.bd u).1; omega
 · show (σ.P u).length ≤ (σ.O ++ [v]).length
   have := (h.bd u).2; simp; omega
 · rcases List.mem_append.1 hu with hu | hu
   · exact h.pc u hu
   · simp at hu; subst hu; exact o3
 · have hu' : u ∈ σ.O ∨ σ.K u ≠ none := by
    by_cases e : u = v
    · subst e; exact .inr (by rw [hk]; nofun)
    · simpa [cm, dI, e] using hu
   rcases h.path u hu' with hq | ⟨b, k1, k2, k3, k4, k5, k6⟩
   · exact .inl hq
   · exact .inr ⟨b, k1, k2, k3, List.mem_append_left _ k4, k5, k6⟩
def Room (σ : SS) (v : Nat) : Prop := v ∈ σ.O ∧ σ.L v + dq ≤ σ.O.length * dq ∧ (σ.P v).length + 1 ≤ σ.O.length
theorem Room.keeps {τ : SS} {v : Nat} (r : Room σ v) (k : iu σ τ) : Room τ v := by
 obtain ⟨a, b, c⟩ := r
 exact ⟨by rw [k.O]; exact a, by rw [k.O, k.L v a]; exact b, by rw [k.O, k.P v a]; exact c⟩
theorem Sv.room (h : Sv A N s al pi σ) (v : Nat) : Room (cm σ v) v := by
 have := h.bd v
 refine ⟨List.mem_append_right _ (by simp), ?_, ?_⟩
 · show σ.L v + dq ≤ (σ.O ++ [v]).length * dq
   rw [List.length_append, List.length_singleton, Nat.succ_mul]; omega
 · show (σ.P v).length + 1 ≤ (σ.O ++ [v]).length
   simp; omega
theorem Sv.scan1 (h : Sv A N s al pi σ) (hA : ∀ a ∈ A, a.t < N ∧ a.w ≤ dq) {v a : Nat} (r : Room σ v) (ha : a < A.length) (hv : (A.getD a default).s = v) : Sv A N s al pi (scan1 A al pi v σ a) ∧ iu σ (scan1 A al pi v σ a) := by
 unfold Ab.scan1
 split
 · rename_i hal
   obtain ⟨r1, r2, r3⟩ := r
   have ok := hA (A.getD a default) (by rw [List.getD_eq_getElem?_getD, List.getElem?_eq_getElem ha]; exact List.getElem_mem ha)
   subst hv
   obtain ⟨h1, h2⟩ := (h.evS ⟨1, a, 0⟩).reach (p := a :: σ.P (A.getD a default).s) (lab := σ.L (A.getD a default).s + (A.getD a default).w) ha hal rfl ok.1 r1 rfl rfl (by show _ ≤ σ.O.length * dq; omega) (by show (σ.P _).length + 1 ≤ σ.O.length; exact r3)
   exact ⟨h1, ⟨h2.O, h2.L, h2.P⟩⟩
 · exact ⟨h, .refl⟩
theorem Sv.scanL (hA : ∀ a ∈ A, a.t < N ∧ a.w ≤ dq) {v : Nat} : ∀ (l : List Nat) {σ : SS}, Sv A N s al pi σ → Room σ v → (∀ a ∈ l, a < A.length ∧ (A.getD a default).s = v) → Sv A N s al pi (l.foldl (Ab.scan1 A al pi v) σ) ∧ iu σ (l.foldl (Ab.scan1 A al pi v) σ)
 | [], _, h, _, _ => ⟨h, .refl⟩
 | a :: l, σ, h, r, hl => by
   obtain ⟨h1, h2⟩ := h.scan1 hA r (hl a (by simp)).1 (hl a (by simp)).2
   obtain ⟨h3, h4⟩ := Sv.scanL hA l h1 (r.keeps h2) (fun b hb => hl b (by simp [hb]))
   exact ⟨h3, h2.trans h4⟩
theorem Sv.next (h : Sv A N s al pi σ) (hA : ∀ a ∈ A, a.t < N ∧ a.w ≤ dq) {v : Nat} {k : Int} (hk : σ.K v = some k) : Sv A N s al pi (kx A al pi v (cm σ v)) ∧ iu (cm σ v) (kx A al pi v (cm σ v)) :=
 Sv.scanL hA _ (h.close hk) (h.room v) (fun _ ha => jS.1 ha)

def InH (A : List Arc) (al : Nat → Bool) (pi : Nat → Int) (a : Nat) : Prop := al a = true ∧ pi (A.getD a default).s < (FAR : Int) ∧ pi (A.getD a default).t < (FAR : Int)
instance (a : Nat) : Decidable (InH A al pi a) := by unfold InH; infer_instance
def kw (A : List Arc) (al : Nat → Bool) (pi : Nat → Int) : List Arc := ((List.range A.length).filter fun a => decide (InH A al pi a)).map fun a => A.getD a default
theorem pT {a : Arc} : a ∈ kw A al pi ↔ ∃ i, i < A.length ∧ InH A al pi i ∧ A.getD i default = a := by
 unfold kw
 simp only [List.mem_map, List.mem_filter, List.mem_range, decide_eq_true_eq, and_assoc]
def Feas (A : List Arc) (al : Nat → Bool) (pi : Nat → Int) : Prop := ∀ i, i < A.length → InH A al pi i → pi (A.getD i default).s ≤ (A.getD i default).w + pi (A.getD i default).t
theorem Sv.wk (h : Sv A N s al pi σ) : ∀ (n : Nat) {v : Nat}, (σ.P v).length ≤ n → (v ∈ σ.O ∨ σ.K v ≠ none) → Wk (kw A al pi) s v (σ.L v) := by
 have pv : ∀ v, (v ∈ σ.O ∨ σ.K v ≠ none) → pi v < (FAR : Int) := fun v hv => hv.elim (h.pc v) (fun hv => by
  cases hk : σ.K v with
  | none => exact absurd hk hv
  | some k => exact (h.op v k hk).2.2.1)
 intro n
 induction n with
 | zero =>
   intro v hn hv
   rcases h.path v hv with ⟨rfl, _, e⟩ | ⟨a, _, _, _, _, e, _⟩
   · rw [e]; exact .nil
   · rw [e] at hn; simp at hn
 | succ n ih =>
   intro v hn hv
   rcases h.path v hv with ⟨rfl, _, e⟩ | ⟨a, k1, k2, k3, k4, k5, k6⟩
   · rw [e]; exact .nil
   · rw [k5] at hn
     rw [k6]
     exact Wk.snoc' (ih (v := (A.getD a default).s) (by simpa using hn) (.inl k4)) (pT.2 ⟨a, k1, ⟨k2, h.pc _ k4, by rw [k3]; exact pv v hv⟩, rfl⟩) rfl k3 rfl
structure Fe (A : List Arc) (s : Nat) (al : Nat → Bool) (pi : Nat → Int) (σ : SS) (ex : Nat → Prop) : Prop where
 opt : ∀ v ∈ σ.O, ∀ w, Wk (kw A al pi) s v w → σ.L v ≤ w
 fr : ∀ a, a < A.length → InH A al pi a → (A.getD a default).s ∈ σ.O → ¬ ex a → (A.getD a default).t ∈ σ.O ∨ (σ.K (A.getD a default).t ≠ none ∧ σ.L (A.getD a default).t ≤ σ.L (A.getD a default).s + (A.getD a default).w)
 st : s ∈ σ.O ∨ (σ.K s ≠ none ∧ σ.L s = 0)
theorem Fe.front (f : Fe A s al pi σ (fun _ => False)) (h : Sv A N s al pi σ) (hF : Feas A al pi) {x w : Nat} (k : Wk (kw A al pi) s x w) : x ∈ σ.O ∨ ∃ y, σ.K y ≠ none ∧ (σ.L y : Int) + pi y ≤ w + pi x := by
 induction k with
 | nil => exact f.st.imp (fun h => h) (fun ⟨a, b⟩ => ⟨s, a, by rw [b]; omega⟩)
 | @snoc w a ha hw ih =>
   obtain ⟨i, hi, hh, rfl⟩ := pT.1 ha
   have fe := hF i hi hh
   rcases ih with ih | ⟨y, h1, h2⟩
   · rcases f.fr i hi hh ih (fun h => h) with h1 | ⟨h1, h2⟩
     · exact .inl h1
     · have := f.opt _ ih _ hw
       exact .inr ⟨_, h1, by omega⟩
   · exact .inr ⟨y, h1, by omega⟩
theorem Fe.popped (f : Fe A s al pi σ (fun _ => False)) (h : Sv A N s al pi σ) (hF : Feas A al pi) {v : Nat} {k : Int} (hp : Pops σ.K v k) :
 (∀ w, Wk (kw A al pi) s v w → σ.L v ≤ w) ∧ ∀ x w, x ∉ σ.O → Wk (kw A al pi) s x w → (σ.L v : Int) + pi v ≤ w + pi x := by
 have key : ∀ x w, x ∉ σ.O → Wk (kw A al pi) s x w → (σ.L v : Int) + pi v ≤ w + pi x := fun x w hx hw => by
  rcases f.front h hF hw with h1 | ⟨y, h1, h2⟩
  · exact absurd h1 hx
  · cases hk : σ.K y with
    | none => exact absurd hk h1
    | some k' =>
      have a := (h.op y k' hk).2.2.2
      have b := (h.op v k hp.1).2.2.2
      have c := hp.2 y k' hk
      omega
 refine ⟨fun w hw => ?_, key⟩
 have := key v w (h.op v k hp.1).2.1 hw
 omega
theorem Fe.close (f : Fe A s al pi σ (fun _ => False)) (h : Sv A N s al pi σ) (hF : Feas A al pi) {v : Nat} {k : Int} (hp : Pops σ.K v k) : Fe A s al pi (cm σ v) (fun a => (A.getD a default).s = v) := by
 have pv := (f.popped h hF hp).1
 refine ⟨fun u hu => ?_, fun a ha hh hs hx => ?_, ?_⟩
 · rcases List.mem_append.1 hu with hu | hu
   · exact f.opt u hu
   · simp at hu; subst hu; exact pv
 · rcases List.mem_append.1 hs with hs | hs
   · rcases f.fr a ha hh hs (fun h => h) with h1 | ⟨h1, h2⟩
     · exact .inl (List.mem_append_left _ h1)
     · by_cases e : (A.getD a default).t = v
       · exact .inl (List.mem_append_right _ (List.mem_singleton.2 e))
       · exact .inr ⟨by simp only [cm, dI]; rw [if_neg e]; exact h1, h2⟩
   · simp at hs; exact absurd hs hx
 · rcases f.st with h1 | ⟨h1, h2⟩
   · exact .inl (List.mem_append_left _ h1)
   · by_cases e : s = v
     · exact .inl (List.mem_append_right _ (List.mem_singleton.2 e))
     · exact .inr ⟨by simp only [cm, dI]; rw [if_neg e]; exact h1, h2⟩
theorem Fe.reach {ex ex' : Nat → Prop} (f : Fe A s al pi σ ex) {a v lab : Nat} {p : List Nat} (ht : (A.getD a default).t = v) (hl : lab = σ.L (A.getD a default).s + (A.getD a default).w) (hx : ∀ b, ¬ ex' b → ¬ ex b ∨ (b = a)) : Fe A s al pi (dF pi σ v lab p) ex' := by
 unfold dF
 split
 · rename_i hc
   refine ⟨f.opt, fun b hb hh hs hbx => ?_, f.st⟩
   rcases hx b hbx with h1 | rfl
   · exact f.fr b hb hh hs h1
   · rw [ht]
     rcases hc with hc | hc | ⟨h1, h2⟩
     · exact .inl hc
     · have := hh.2.2; rw [ht] at this; omega
     · exact .inr ⟨fun e => (by rw [e] at h1; cases h1), by omega⟩
 · rename_i hc
   simp only [not_or] at hc
   obtain ⟨c1, c2, c4⟩ := hc
   have c3 := fun h1 h2 => c4 ⟨h1, h2⟩
   have q : ∀ u ∈ σ.O, u ≠ v := fun u hu e => c1 (by subst e; exact hu)
   refine ⟨fun u hu => ?_, fun b hb hh hs hbx => ?_, ?_⟩
   · simp only [cy, if_neg (q u hu)]; exact f.opt u hu
   · simp only [cy, dI, if_neg (q _ hs)]
     by_cases e : (A.getD b default).t = v
     · right
       simp only [e, if_true]
       refine ⟨by nofun, ?_⟩
       rcases hx b hbx with h1 | rfl
       · rcases f.fr b hb hh hs h1 with h2 | ⟨h2, h3⟩
         · rw [e] at h2; exact absurd h2 c1
         · rw [e] at h2 h3
           have : ¬ σ.L v ≤ lab := c3 (by cases hk : σ.K v with | none => exact absurd hk h2 | some k => rfl)
           omega
       · omega
     · simp only [if_neg e]
       rcases hx b hbx with h1 | rfl
       · exact f.fr b hb hh hs h1
       · exact absurd ht e
   · rcases f.st with h1 | ⟨h1, h2⟩
     · exact .inl h1
     · by_cases e : s = v
       · subst e
         have : ¬ σ.L s ≤ lab := c3 (by cases hk : σ.K s with | none => exact absurd hk h1 | some k => rfl)
         omega
       · exact .inr ⟨by simp only [dI, if_neg e]; exact h1, by simp only [cy, if_neg e]; exact h2⟩
theorem Fe.exm {ex ex' : Nat → Prop} (f : Fe A s al pi σ ex) (h : ∀ a, a < A.length → ex a → ex' a) : Fe A s al pi σ ex' :=
 ⟨f.opt, fun a ha hh hs hx => f.fr a ha hh hs (fun he => hx (h a ha he)), f.st⟩
theorem Fe.scan1 {ex ex' : Nat → Prop} (f : Fe A s al pi σ ex) {a v : Nat} (hv : (A.getD a default).s = v) (hx : ∀ b, ¬ ex' b → ¬ ex b ∨ (b = a)) : Fe A s al pi (scan1 A al pi v σ a) ex' := by
 unfold Ab.scan1
 split
 · subst hv
   exact Fe.reach (σ := evS σ ⟨1, a, 0⟩) ⟨f.opt, f.fr, f.st⟩ rfl rfl hx
 · rename_i hal
   refine ⟨f.opt, fun b hb hh hs hbx => ?_, f.st⟩
   rcases hx b hbx with h | rfl
   · exact f.fr b hb hh hs h
   · exact absurd hh.1 hal
theorem Fe.scanL {v : Nat} : ∀ (l : List Nat) {σ : SS}, Fe A s al pi σ (· ∈ l) → (∀ a ∈ l, (A.getD a default).s = v) → Fe A s al pi (l.foldl (Ab.scan1 A al pi v) σ) (fun _ => False)
 | [], _, f, _ => f.exm (fun a _ h => by cases h)
 | a :: l, σ, f, hl => Fe.scanL l (f.scan1 (a := a) (hl a (by simp)) (fun b hb => by by_cases e : b = a; exact .inr e; exact .inl (by simp [e, hb]))) (fun b hb => hl b (by simp [hb]))
theorem Fe.next (f : Fe A s al pi σ (fun _ => False)) (h : Sv A N s al pi σ) (hF : Feas A al pi) {v : Nat} {k : Int} (hp : Pops σ.K v k) : Fe A s al pi (kx A al pi v (cm σ v)) (fun _ => False) :=
 Fe.scanL _ ((f.close h hF hp).exm fun a ha hs => jS.2 ⟨ha, hs⟩) (fun a ha => (jS.1 ha).2)
theorem Wk.mono {B C : List Arc} (hm : ∀ a ∈ B, a ∈ C) {v w : Nat} (h : Wk B s v w) : Wk C s v w := by
 induction h with
 | nil => exact .nil
 | snoc ha _ ih => exact .snoc (hm _ ha) ih
theorem IsD.congr {B C : List Arc} (hm : ∀ a, a ∈ B ↔ a ∈ C) {v x : Nat} (h : IsD B s v x) : IsD C s v x := by
 rcases h with ⟨a, b, c⟩ | ⟨a, b⟩
 · exact .inl ⟨a, b.mono fun a => (hm a).1, fun w hw => c w (hw.mono fun a => (hm a).2)⟩
 · exact .inr ⟨a, fun w hw => b w (hw.mono fun a => (hm a).2)⟩
end
end Go.Ab

end
section
namespace Go.Ab
open Go.Proofs
set_option maxRecDepth 10000
open Tryz in
def Tryz.FFs1114 := aj a1 <| aj s1 <| aj z1 <| aj n1 <| aj u2 <| aj a2 <| aj s2 <| aj z2 <| aj i2 <| aj u3 <| aj a3 <| aj s3 <| aj z3 <| aj i3 <| aj u4 <| aj a4 <| aj s4 <| aj z4 <| aj n4 <| aj u5 <| aj a5 <| aj s5 <| aj z5 <| aj i5 <| aj u6 <| aj a6 <| aj s6 <| aj z6 <| aj i6 <| aj u25 <| aj a25 <| aj s25 <| aj z25 <| aj q25 <| aj n25 <| aj u33 <| aj a33 <| aj s33 <| aj z33 <| aj q33 <| aj i33 <| aj n33 <| aj u38 <| aj a38 <| aj s38 <| aj z38 <| aj q38 <| aj n38 <| aj u43 <| aj a43 <| aj s43 <| aj z43 <| aj q43 <| aj n43 <| aj u44 <| aj a44 <| aj s44 <| aj z44 <| aj q44 <| aj n44 <| aj u47 <| aj a47 <| aj s47 <| aj z47 <| aj i47 <| aj a51 <| aj s51 <| aj z51 <| aj i51 <| aj n51 <| aj p51 <| aj ff51 <| aj d51 <| aj a111 <| aj s111 <| aj z111 <| aj n111 <| aj u114 <| aj a114 <| aj s114 <| aj z114 <| aj q114 <| aj i114 <| aj n114 <| aj a165 <| aj s165 <| aj z165 <| aj i165 <| aj n165 <| aj p165 <| aj ff165 <| aj d165 <| aj u178 <| aj a178 <| aj s178 <| aj z178 <| aj q178 <| aj i178 <| aj n178 <| aj a180 <| aj s180 <| aj z180 <| aj n180 <| aj a182 <| aj s182 <| aj z182 <| aj i182 <| aj n182 <| aj p182 <| aj ff182 <| aj d182 <| aj a237 <| aj s237 <| aj z237 <| aj i237 <| aj n237 <| aj p237 <| aj ff237 <| aj d237 <| aj a239 <| aj s239 <| aj z239 <| aj i239 <| aj n239 <| aj p239 <| aj ff239 <| d239
def labC (N : Nat) (L : Nat → Nat) : List Value := (List.range N).map fun v => .int .i64 (L v : Nat)
def byI : List Nat → Int
 | [] => -1
 | a :: _ => (a : Nat)
def byC (N : Nat) (P : Nat → List Nat) : List Value := (List.range N).map fun v => .int .i64 (byI (P v))
def clC (N : Nat) (O : List Nat) : List Value := (List.range N).map fun v => .bool (decide (v ∈ O))
theorem mL {N v : Nat} {L : Nat → Nat} (h : v < N) : (labC N L)[v]? = some (.int .i64 (L v : Nat)) := gI (F := fun v => Value.int .i64 ((L v : Nat) : Int)) h
theorem byC_at {N v : Nat} {P : Nat → List Nat} (h : v < N) : (byC N P)[v]? = some (.int .i64 (byI (P v))) := gI (F := fun v => Value.int .i64 (byI (P v))) h
theorem clC_at {N v : Nat} {O : List Nat} (h : v < N) : (clC N O)[v]? = some (.bool (decide (v ∈ O))) := gI (F := fun v => Value.bool (decide (v ∈ O))) h
theorem rx {N : Nat} {L : Nat → Nat} : (labC N L).length = N := by simp [labC]
theorem byC_len {N : Nat} {P : Nat → List Nat} : (byC N P).length = N := by simp [byC]
theorem clC_len {N : Nat} {O : List Nat} : (clC N O).length = N := by simp [clC]
theorem labC_set {N v x : Nat} {L : Nat → Nat} : (labC N L).set v (.int .i64 (x : Nat)) = labC N (cy L v x) := by
 have := ic (N := N) (k := v) (F := fun v => Value.int .i64 ((L v : Nat) : Int)) (F' := fun u => Value.int .i64 ((cy L v x u : Nat) : Int)) (fun i _ hi => by simp [cy, hi])
 unfold labC
 rw [← this]; simp [cy]
theorem byC_set {N v : Nat} {P : Nat → List Nat} {p : List Nat} : (byC N P).set v (.int .i64 (byI p)) = byC N (io P v p) := by
 have := ic (N := N) (k := v) (F := fun v => Value.int .i64 (byI (P v))) (F' := fun u => Value.int .i64 (byI (io P v p u))) (fun i _ hi => by simp [io, hi])
 unfold byC
 rw [← this]; simp [io]
theorem clC_set {N v : Nat} {O : List Nat} : (clC N O).set v (.bool true) = clC N (O ++ [v]) := by
 have := ic (N := N) (k := v) (F := fun v => Value.bool (decide (v ∈ O))) (F' := fun u => Value.bool (decide (u ∈ O ++ [v]))) (fun i _ hi => by simp [hi])
 unfold clC
 rw [← this]; simp
def srL (br bl bb bk N : Nat) (pn p fal fpi vE : Value) (σ : SS) : List (Nat × Ob) :=
 [(br, .row [pn, p, .slice (some ⟨bl, 0, none⟩) N N, .slice (some ⟨bb, 0, none⟩) N N, .slice (some ⟨bk, 0, none⟩) N N, fal, fpi, vE] 1), (bl, .row (labC N σ.L) 1), (bb, .row (byC N σ.P) 1), (bk, .row (clC N σ.O) 1)]
def srG (vE : Value) (σ : SS) : List GL := [(vE, 4, σ.ev.flatMap c9)]
def dT (h : Hp) (B : List Nat) (br : Nat) (pn fal fpi : Value) (N : Nat) (σ : SS) : Prop :=
 ∃ bl bb bk p F vE, B = keys (srL br bl bb bk N pn (ptrTo p) fal fpi vE σ) (srG vE σ) ++ F ∧ (∀ q ∈ srL br bl bb bk N pn (ptrTo p) fal fpi vE σ, Has h q.1 q.2) ∧ cF h (vE, 4, σ.ev.flatMap c9) ∧ (keys (srL br bl bb bk N pn (ptrTo p) fal fpi vE σ) (srG vE σ)).Nodup ∧ cU h F (ptrTo p) N σ.K ∧ ∀ c ∈ F, c ∉ keys (srL br bl bb bk N pn (ptrTo p) fal fpi vE σ) (srG vE σ)
theorem St.ofHas {M : Nat → Prop} {h : Hp} {L : List (Nat × Ob)} {G : List GL} (ok : h.t.Sized h.n) (hL : ∀ q ∈ L, Has h q.1 q.2) (hG : ∀ p ∈ G, cF h p) (nd : (keys L G).Nodup) (hM : ∀ c ∈ keys L G, M c) : St M h h L G :=
 ⟨Mo.refl ok, fun p hp => ⟨.inr (hM _ (iI hp)), hL p hp⟩, fun p hp => ⟨hG p hp, fun b hb => .inr (hM _ (fm hp hb))⟩, nd⟩
theorem dT.mo {M : Nat → Prop} {h h' : Hp} {B : List Nat} {br N : Nat} {pn fal fpi : Value} {σ : SS} (r : dT h B br pn fal fpi N σ) (g : Mo M h h') (hm : ∀ b ∈ B, ¬ M b) : dT h' B br pn fal fpi N σ := by
 obtain ⟨bl, bb, bk, p, F, vE, rfl, h1, h2, h3, h4, h5⟩ := r
 refine ⟨bl, bb, bk, p, F, vE, rfl, fun q hq => g.has (h1 q hq) (hm _ (List.mem_append_left _ (iI hq))), h2.of_get fun b hb => g.get b (h2.lt g.ok0 hb) (hm b (List.mem_append_left _ (fm (p := (vE, 4, σ.ev.flatMap c9)) m0 hb))), h3, h4.mo g (fun b hb => hm b (List.mem_append_right _ hb)), h5⟩
theorem dT.gr {h h' : Hp} {B : List Nat} {br N : Nat} {pn fal fpi : Value} {σ : SS} (r : dT h B br pn fal fpi N σ) (g : Gr h h') : dT h' B br pn fal fpi N σ := r.mo (M := NoM) g.fr (fun _ _ h => h)
theorem dT.lt {h : Hp} (ok : h.t.Sized h.n) {B : List Nat} {br N : Nat} {pn fal fpi : Value} {σ : SS} (r : dT h B br pn fal fpi N σ) : ∀ c ∈ B, c < h.n := by
 obtain ⟨bl, bb, bk, p, F, vE, rfl, h1, h2, h3, h4, h5⟩ := r
 intro c hc
 rcases List.mem_append.1 hc with hc | hc
 · exact (St.ofHas (M := fun _ => True) ok h1 (fun p hp => by cases hp with | head => exact h2 | tail _ h => cases h) h3 (fun _ _ => trivial)).key_lt hc
 · exact h4.lt ok c hc
theorem Gr.mo' {hq h h' : Hp} {B : List Nat} (g : Gr hq h) (f : Mo (· ∈ B) h h') (hB : ∀ c ∈ B, hq.n ≤ c) : Gr hq h' := ((g.fr (M := NoM)).trans f (fun i hi => .inr (hB i hi))).gr
def PiF (E : Env) (hq : Hp) (g : FuncId) (ba N : Nat) (pi : Nat → Int) : Prop := ∀ h, Gr hq h → ∀ v, v < N → dl E g [.int .i64 (v : Nat), ptrTo ba] h (.int .i64 (pi v))
def AlF (E : Env) (hq : Hp) (g : FuncId) (ba n : Nat) (al : Nat → Bool) : Prop := ∀ h, Gr hq h → ∀ a, a < n → dl E g [.int .i64 (a : Nat), ptrTo ba] h (.bool (al a))
theorem qk {hq h0 : Hp} (gq : Gr hq h0) {B : List Nat} {br N ba v lab : Nat} {p : List Nat} {g2 : FuncId} {pn fal : Value} {σ : SS} {pi : Nat → Int} (R : dT h0 B br pn fal (.func (.func g2) #[] #[ptrTo ba]) N σ) (hpi : PiF Tryz.abEnv hq g2 ba N pi) (hN : N ≤ 12) (hv : v < N) (hl : lab ≤ 12 * dq)
 (hp : -(FAR : Int) ≤ pi v) (hk : ∀ k, σ.K v = some k → k = σ.L v + pi v) :
 Ret Tryz.abEnv 114 [ptrTo br, .int .i64 (v : Nat), .int .i64 (lab : Nat), .int .i64 (byI p)] h0 fun _ h' => Mo (· ∈ B) h0 h' ∧ ∃ B', dT h' B' br pn fal (.func (.func g2) #[] #[ptrTo ba]) N (dF pi σ v lab p) ∧ ∀ c ∈ B', c ∈ B ∨ h0.n ≤ c := by
 have ok := gq.ok
 have R0 := R
 obtain ⟨bl, bb, bk, ph, F, vE, rfl, hL, hG, nd, H, hF⟩ := R
 have S := St.ofHas (M := fun c => c ∈ keys (srL br bl bb bk N pn (ptrTo ph) fal (.func (.func g2) #[] #[ptrTo ba]) vE σ) (srG vE σ) ++ F) ok hL (fun p hp => by cases hp with | head => exact hG | tail _ h => cases h) nd (fun c hc => List.mem_append_left _ hc)
 have fr := jO
 have wm := mV
 have same : dF pi σ v lab p = σ → ∀ h, Gr h0 h → Mo (· ∈ keys (srL br bl bb bk N pn (ptrTo ph) fal (.func (.func g2) #[] #[ptrTo ba]) vE σ) (srG vE σ) ++ F) h0 h ∧ ∃ B', dT h B' br pn fal (.func (.func g2) #[] #[ptrTo ba]) N (dF pi σ v lab p) ∧ ∀ c ∈ B', c ∈ keys (srL br bl bb bk N pn (ptrTo ph) fal (.func (.func g2) #[] #[ptrTo ba]) vE σ) (srG vE σ) ++ F ∨ h0.n ≤ c :=
  fun e h g => ⟨g.fr, _, by rw [e]; exact R0.gr g, fun c hc => .inl hc⟩
 generalize hBB : keys (srL br bl bb bk N pn (ptrTo ph) fal (.func (.func g2) #[] #[ptrTo ba]) vE σ) (srG vE σ) ++ F = BB at S same
 have hFB : ∀ c ∈ F, c ∈ BB ∨ h0.n ≤ c := fun c hc => .inl (by rw [← hBB]; exact List.mem_append_right _ hc)
 unfold srL srG at S
 have lF := H.lt ok
 have ll := fun {b} hb => S.key_lt (b := b) hb
 refine aq (n := 86) (rs := []) rfl Tryz.e114 rfl rfl rfl (lbt rfl) ?_
 simp only [BS, LB, Nat.reduceLT, Nat.reduceEqDiff, Tryz.FFs1114, S.ld (b := br) (o := 6) (by repeat constructor) rfl]
 refine bH (hpi _ gq v hv) ?_; intro h g; replace S := S.call g; replace H := H.gr g
 simp only [BS, LB, Nat.reduceLT, Nat.reduceEqDiff, Tryz.FFs1114, S.ld (b := br) (o := 1) (by repeat constructor) rfl]
 refine bH (sX S.ok H) ?_; intro h' g'; replace S := S.call g'; replace H := H.gr g'; replace g := g.trans g'; clear g' h
 have n0 := g.n
 have lk := (S.row (b := bk) m3).load1 (clC_at (O := σ.O) hv)
 have lL := (S.row (b := bl) m1).load1 (mL (L := σ.L) hv)
 by_cases hO : v ∈ σ.O
 · have dO : decide (v ∈ σ.O) = true := decide_eq_true hO
   simp only [BS, LB, Nat.reduceLT, Nat.reduceEqDiff, Tryz.FFs1114, hv, lk, dO, S.ld (b := br) (o := 4) (by repeat constructor) rfl, S.ld (b := br) (o := 2) (by repeat constructor) rfl]
   exact same (by unfold dF; rw [if_pos (.inl hO)]) _ g
 · have dO : decide (v ∈ σ.O) = false := decide_eq_false hO
   by_cases hpF : (FAR : Int) ≤ pi v
   · have c1 : (72057594037927936 : Int) ≤ pi v := by omega
     simp only [BS, LB, Nat.reduceLT, Nat.reduceEqDiff, Tryz.FFs1114, hv, lk, dO, c1, S.ld (b := br) (o := 4) (by repeat constructor) rfl, S.ld (b := br) (o := 2) (by repeat constructor) rfl]
     exact same (by unfold dF; rw [if_pos (.inr (.inl hpF))]) _ g
   · have c1 : ¬ (72057594037927936 : Int) ≤ pi v := by omega
     have wl : aw .i64 ((lab : Int) + pi v) = (lab : Int) + pi v := by rw [wrap64] <;> omega
     have fin : ¬ ((σ.K v).isSome = true ∧ σ.L v ≤ lab) → ∀ (h' : Hp) (F' : List Nat), St (· ∈ BB) h0 h' [(br, .row [pn, ptrTo ph, .slice (some ⟨bl, 0, none⟩) N N, .slice (some ⟨bb, 0, none⟩) N N, .slice (some ⟨bk, 0, none⟩) N N, fal, .func (.func g2) #[] #[ptrTo ba], vE] 1), (bl, .row ((labC N σ.L).set v (.int .i64 (lab : Nat))) 1), (bb, .row ((byC N σ.P).set v (.int .i64 (byI p))) 1), (bk, .row (clC N σ.O) 1)] [(vE, 4, σ.ev.flatMap c9)] →
      cU h' F' (ptrTo ph) N (dI σ.K v (some ((lab : Int) + pi v))) → (∀ c ∈ F', c ∈ F ∨ h0.n ≤ c) → Mo (· ∈ BB) h0 h' ∧ ∃ B', dT h' B' br pn fal (.func (.func g2) #[] #[ptrTo ba]) N (dF pi σ v lab p) ∧ ∀ c ∈ B', c ∈ BB ∨ h0.n ≤ c := by
      intro hc h' F' T H' hF'
      rw [labC_set, byC_set] at T
      refine ⟨T.fr, keys (srL br bl bb bk N pn (ptrTo ph) fal (.func (.func g2) #[] #[ptrTo ba]) vE σ) (srG vE σ) ++ F', ?_, fun c hc => ?_⟩
      · unfold dF
        rw [if_neg (by simp only [not_or]; exact ⟨hO, hpF, hc⟩)]
        refine ⟨bl, bb, bk, ph, F', vE, rfl, fun q hq => (T.own q hq).2, (T.gown _ m0).1, T.apart, H', fun c hc hm => ?_⟩
        rcases hF' c hc with h1 | h1
        · exact hF c h1 hm
        · have := ll (b := c) hm; omega
      · rcases List.mem_append.1 hc with hc | hc
        · exact .inl (by rw [← hBB]; exact List.mem_append_left _ hc)
        · rcases hF' c hc with h1 | h1
          · exact .inl (by rw [← hBB]; exact List.mem_append_right _ h1)
          · exact .inr h1
     have hne : ∀ F' : List Nat, (∀ c ∈ F', c ∈ F ∨ h0.n ≤ c) → ∀ c ∈ F', ¬ (c = bl) ∧ ¬ (c = bb) := fun F' h c hc => by
      rcases h c hc with h1 | h1
      · have := hF c h1
        simp [srL, keys] at this
        exact ⟨this.2.1, this.2.2.1⟩
      · have h2 := ll (b := bl) (by simp [keys])
        have h3 := ll (b := bb) (by simp [keys])
        exact ⟨fun e => by omega, fun e => by omega⟩
     have ap := S.apart
     have n1 : br ≠ bl := fun e => by subst e; simp [keys] at ap
     have n2 : br ≠ bb := fun e => by subst e; simp [keys] at ap
     have n3 : bl ≠ bb := fun e => by subst e; simp [keys] at ap
     clear ap
     cases hK : σ.K v with
     | none =>
       simp only [BS, LB, Nat.reduceLT, Nat.reduceEqDiff, Tryz.FFs1114, hv, lk, dO, c1, Option.getD_none, Option.isSome_none, wl, S.ld (b := br) (o := 4) (by repeat constructor) rfl, S.ld (b := br) (o := 2) (by repeat constructor) rfl, S.ld (b := br) (o := 1) (by repeat constructor) rfl]
       refine step_ret (sf S.ok H hv (by omega) hK) ?_
       rintro r h2 ⟨f2, F', H2, hF'⟩
       replace S := S.stepF f2 (fun c hc => ⟨hFB c hc, hF c hc⟩)
       replace hF' : ∀ c ∈ F', c ∈ F ∨ h0.n ≤ c := fun c hc => (hF' c hc).imp (fun h => h) (fun h => Nat.le_trans n0 h)
       clear lk lL
       simp only [BS]
       refine az (aD rfl) (q := 0) (ps := []) (by kernel_rfl) ?_
       simp only [BS, LB, cls, Nat.reduceLT, Nat.reduceEqDiff, Nat.reduceAdd, Nat.reducePow, Nat.reduceDiv, Nat.reduceMod, Nat.reduceLeDiff, Tryz.FFs1114, hv, S.ld (b := br) (o := 2) (by repeat constructor) rfl, S.ld (b := br) (o := 3) (by repeat constructor) rfl]
       refine aJ (ab S (i := 1) rfl Tryz.s2 aF (by rw [rx]; exact hv) ono) ?_
       clear S; rintro h3 ⟨S, mo1⟩
       simp only [List.set_cons_zero, List.set_cons_succ] at S
       simp only [BS, LB, cls, Nat.reduceLT, Nat.reduceEqDiff, Nat.reduceAdd, Nat.reducePow, Nat.reduceDiv, Nat.reduceMod, Nat.reduceLeDiff, Tryz.FFs1114, hv]
       refine aJ (ab S (i := 2) rfl Tryz.s3 aF (by rw [byC_len]; exact hv) ono) ?_
       clear S; rintro h4 ⟨S, mo2⟩
       simp only [List.set_cons_zero, List.set_cons_succ] at S
       simp only [BS, LB, Nat.reduceAdd]
       exact fin (by rw [hK]; simp) _ F' S ((H2.mo mo1 (fun c hc => (hne F' hF' c hc).1)).mo mo2 (fun c hc => (hne F' hF' c hc).2)) hF'
     | some k =>
       have ek := hk k hK
       by_cases hle : σ.L v ≤ lab
       · have c2 : (σ.L v : Int) ≤ (lab : Int) := by omega
         simp only [BS, LB, Nat.reduceLT, Nat.reduceEqDiff, Tryz.FFs1114, hv, lk, dO, lL, c1, Option.getD_some, c2, S.ld (b := br) (o := 4) (by repeat constructor) rfl, S.ld (b := br) (o := 2) (by repeat constructor) rfl]
         exact same (by unfold dF; rw [if_pos (.inr (.inr ⟨by rw [hK]; rfl, hle⟩))]) _ g
       · have c2 : ¬ (σ.L v : Int) ≤ (lab : Int) := by omega
         simp only [BS, LB, Nat.reduceLT, Nat.reduceEqDiff, Tryz.FFs1114, hv, lk, dO, lL, c1, Option.getD_some, c2, wl, S.ld (b := br) (o := 4) (by repeat constructor) rfl, S.ld (b := br) (o := 2) (by repeat constructor) rfl, S.ld (b := br) (o := 1) (by repeat constructor) rfl]
         refine step_ret (qI S.ok H (by omega) hK (k := (lab : Int) + pi v) (by omega)) ?_
         rintro r h2 ⟨f2, H2⟩
         replace S := S.stepF f2 (fun c hc => ⟨hFB c hc, hF c hc⟩)
         have hF' : ∀ c ∈ F, c ∈ F ∨ h0.n ≤ c := fun c hc => .inl hc
         clear lk lL
         simp only [BS]
         refine az (aD rfl) (q := 0) (ps := []) (by kernel_rfl) ?_
         simp only [BS, LB, cls, Nat.reduceLT, Nat.reduceEqDiff, Nat.reduceAdd, Nat.reducePow, Nat.reduceDiv, Nat.reduceMod, Nat.reduceLeDiff, Tryz.FFs1114, hv, S.ld (b := br) (o := 2) (by repeat constructor) rfl, S.ld (b := br) (o := 3) (by repeat constructor) rfl]
         refine aJ (ab S (i := 1) rfl Tryz.s2 aF (by rw [rx]; exact hv) ono) ?_
         clear S; rintro h3 ⟨S, mo1⟩
         simp only [List.set_cons_zero, List.set_cons_succ] at S
         simp only [BS, LB, cls, Nat.reduceLT, Nat.reduceEqDiff, Nat.reduceAdd, Nat.reducePow, Nat.reduceDiv, Nat.reduceMod, Nat.reduceLeDiff, Tryz.FFs1114, hv]
         refine aJ (ab S (i := 2) rfl Tryz.s3 aF (by rw [byC_len]; exact hv) ono) ?_
         clear S; rintro h4 ⟨S, mo2⟩
         simp only [List.set_cons_zero, List.set_cons_succ] at S
         simp only [BS, LB, Nat.reduceAdd]
         exact fin (by rw [hK]; simp; omega) _ F S ((H2.mo mo1 (fun c hc => (hne F hF' c hc).1)).mo mo2 (fun c hc => (hne F hF' c hc).2)) hF'
end Go.Ab

end
section
namespace Go.Ab
open Go.Proofs
set_option maxRecDepth 10000
open Tryz in
def Tryz.FFs2119 := aj a1 <| aj s1 <| aj z1 <| aj n1 <| aj u2 <| aj a2 <| aj s2 <| aj z2 <| aj i2 <| aj u3 <| aj a3 <| aj s3 <| aj z3 <| aj i3 <| aj u4 <| aj a4 <| aj s4 <| aj z4 <| aj n4 <| aj u5 <| aj a5 <| aj s5 <| aj z5 <| aj i5 <| aj u6 <| aj a6 <| aj s6 <| aj z6 <| aj i6 <| aj a7 <| aj s7 <| aj z7 <| aj i7 <| aj n7 <| aj p7 <| aj ff7 <| aj d7 <| aj u25 <| aj a25 <| aj s25 <| aj z25 <| aj q25 <| aj n25 <| aj a31 <| aj s31 <| aj z31 <| aj i31 <| aj n31 <| aj p31 <| aj ff31 <| aj d31 <| aj u33 <| aj a33 <| aj s33 <| aj z33 <| aj q33 <| aj i33 <| aj n33 <| aj u38 <| aj a38 <| aj s38 <| aj z38 <| aj q38 <| aj n38 <| aj u43 <| aj a43 <| aj s43 <| aj z43 <| aj q43 <| aj n43 <| aj u44 <| aj a44 <| aj s44 <| aj z44 <| aj q44 <| aj n44 <| aj a51 <| aj s51 <| aj z51 <| aj i51 <| aj n51 <| aj p51 <| aj ff51 <| aj d51 <| aj a56 <| aj s56 <| aj z56 <| aj i56 <| aj n56 <| aj p56 <| aj ff56 <| aj d56 <| aj a111 <| aj s111 <| aj z111 <| aj n111 <| aj u114 <| aj a114 <| aj s114 <| aj z114 <| aj q114 <| aj i114 <| aj n114 <| aj u163 <| aj a163 <| aj s163 <| aj z163 <| aj q163 <| aj n163 <| aj a165 <| aj s165 <| aj z165 <| aj i165 <| aj n165 <| aj p165 <| aj ff165 <| aj d165 <| aj u178 <| aj a178 <| aj s178 <| aj z178 <| aj q178 <| aj i178 <| aj n178 <| aj a180 <| aj s180 <| aj z180 <| aj n180 <| aj a182 <| aj s182 <| aj z182 <| aj i182 <| aj n182 <| aj p182 <| aj ff182 <| aj d182 <| aj a239 <| aj s239 <| aj z239 <| aj i239 <| aj n239 <| aj p239 <| aj ff239 <| d239
theorem dT.close {M : Nat → Prop} {h0 h : Hp} {br bl bb bk ph N : Nat} {F : List Nat} {pn fal fpi vE : Value} {σ : SS} (S : St M h0 h (srL br bl bb bk N pn (ptrTo ph) fal fpi vE σ) (srG vE σ)) (H : cU h F (ptrTo ph) N σ.K) (hF : ∀ c ∈ F, c ∉ keys (srL br bl bb bk N pn (ptrTo ph) fal fpi vE σ) (srG vE σ)) :
 dT h (keys (srL br bl bb bk N pn (ptrTo ph) fal fpi vE σ) (srG vE σ) ++ F) br pn fal fpi N σ :=
 ⟨bl, bb, bk, ph, F, vE, rfl, fun q hq => (S.own q hq).2, (S.gown _ m0).1, S.apart, H, hF⟩
theorem dT.open {h : Hp} (ok : h.t.Sized h.n) {B : List Nat} {br N : Nat} {pn fal fpi : Value} {σ : SS} (r : dT h B br pn fal fpi N σ) : ∃ bl bb bk ph F vE, B = keys (srL br bl bb bk N pn (ptrTo ph) fal fpi vE σ) (srG vE σ) ++ F ∧ St (· ∈ B) h h (srL br bl bb bk N pn (ptrTo ph) fal fpi vE σ) (srG vE σ) ∧ cU h F (ptrTo ph) N σ.K ∧ ∀ c ∈ F, c ∉ keys (srL br bl bb bk N pn (ptrTo ph) fal fpi vE σ) (srG vE σ) := by
 obtain ⟨bl, bb, bk, ph, F, vE, rfl, h1, h2, h3, h4, h5⟩ := r
 exact ⟨bl, bb, bk, ph, F, vE, rfl, St.ofHas ok h1 (fun p hp => by cases hp with | head => exact h2 | tail _ h => cases h) h3 (fun c hc => List.mem_append_left _ hc), h4, h5⟩
theorem ns (pi : Nat → Int) (σ : SS) (v lab : Nat) (p : List Nat) : (dF pi σ v lab p).ev = σ.ev := by
 unfold dF; split <;> rfl
theorem qH (A : List Arc) (al : Nat → Bool) (pi : Nat → Int) (v : Nat) (σ : SS) (a : Nat) : (scan1 A al pi v σ a).ev.length ≤ σ.ev.length + 1 := by
 unfold scan1
 split
 · rw [ns]; simp [evS]
 · omega
theorem sscan_ok {hq h0 : Hp} (okq : hq.t.Sized hq.n) (gq : Gr hq h0) {γ : Gra} (hγ : Good γ) {nb bp : Nat} (hn : dD hq nb (ptrTo bp) γ) {B : List Nat} {br ba v s : Nat} {g1 g2 : FuncId} {σ : SS} {al : Nat → Bool} {pi : Nat → Int} (R : dT h0 B br (ptrTo bp) (.func (.func g1) #[] #[ptrTo ba]) (.func (.func g2) #[] #[ptrTo ba]) γ.nodes σ) (hB : ∀ c ∈ B, hq.n ≤ c) (hal : AlF Tryz.abEnv hq g1 ba γ.arcs.length al) (hpi : PiF Tryz.abEnv hq g2 ba γ.nodes pi) (hp : ∀ v, v < γ.nodes → -(FAR : Int) ≤ pi v)
 (hv : v < γ.nodes) (sv : Sv γ.arcs γ.nodes s al pi σ) (rm : Room σ v) (he : σ.ev.length ≤ 10000) :
 Ret Tryz.abEnv 119 [ptrTo br, .int .i64 (v : Nat)] h0 fun _ h' => Mo (· ∈ B) h0 h' ∧ ∃ B', dT h' B' br (ptrTo bp) (.func (.func g1) #[] #[ptrTo ba]) (.func (.func g2) #[] #[ptrTo ba]) γ.nodes (kx γ.arcs al pi v σ) ∧ ∀ c ∈ B', c ∈ B ∨ h0.n ≤ c := by
 have ok := gq.ok
 have n1 := hγ.n1
 have n2 := hγ.n2
 have wm := mV
 have hA : ∀ a ∈ γ.arcs, a.t < γ.nodes ∧ a.w ≤ dq := fun a ha => ⟨(hγ.arcs a ha).2.1, (hγ.arcs a ha).2.2⟩
 have l0 : h0.load br 0 1 = some [ptrTo bp] := by
  obtain ⟨bl, bb, bk, ph, F, vE, rfl, h1, _⟩ := R
  exact Row.load1 (show Row h0 br _ 1 from h1 _ m0) (o := 0) rfl
 have S := St.init (M := NoM) ok
 refine aq (n := 62) (rs := []) rfl Tryz.e119 rfl rfl rfl (lbt rfl) ?_
 simp only [BS, LB, Nat.reduceLT, Nat.reduceEqDiff, Tryz.FFs2119, l0]
 refine step_ret (netOut_ok S.ok (hn.gr gq) (by have := hγ.many; omega) hv) ?_
 rintro vl h1 ⟨g, sl, hc⟩
 have lB := R.lt ok
 have R1 := R.gr g
 have ok1 := g.ok
 have ol := kZ γ.arcs Arc.s γ.arcs.length v
 have many := hγ.many
 have n01 := g.n
 simp only [BS, LB, Nat.reduceLT, Nat.reduceEqDiff, Tryz.FFs2119, sl.lenq]
 refine aW (fun (i : Nat) ρ h => i ≤ (outs γ.arcs Arc.s γ.arcs.length v).length ∧ ∃ B', Mo (· ∈ B) h1 h ∧ dT h B' br (ptrTo bp) (.func (.func g1) #[] #[ptrTo ba]) (.func (.func g2) #[] #[ptrTo ba]) γ.nodes (((outs γ.arcs Arc.s γ.arcs.length v).take i).foldl (scan1 γ.arcs al pi v) σ) ∧ (∀ c ∈ B', c ∈ B ∨ h1.n ≤ c) ∧
  ρ 0 = ptrTo br ∧ ρ 1 = .int .i64 (v : Nat) ∧ ρ 13 = vl ∧ ρ 14 = .int .i64 ((outs γ.arcs Arc.s γ.arcs.length v).length : Nat) ∧ ρ 15 = .int .i64 i) (fun i => (outs γ.arcs Arc.s γ.arcs.length v).length - i) ?_ 0 _ _ ?_
 · clear S l0
   intro i ih ρ hS ⟨hi, B', f, R', hB', r0, r1, r13, r14, r15⟩
   by_cases hlt : i < (outs γ.arcs Arc.s γ.arcs.length v).length
   · have hBq : ∀ c ∈ B', hq.n ≤ c := fun c hc => (hB' c hc).elim (hB c) (fun h => by have := gq.n; omega)
     have gh : Gr hq hS := (gq.trans g).mo' f hB
     have slh := sl.mo f (fun b hb hm => by have := hc b hb; have := lB b hm; omega)
     obtain ⟨c, o, hidx, hld⟩ := slh.ix (kd := .i64) gn hlt
     have hm := jS.1 (List.getElem_mem hlt)
     have w : aw .i64 ((i : Int) + 1) = ((i + 1 : Nat) : Int) := by rw [wrap64] <;> omega
     have hl2 : ∀ a ∈ (outs γ.arcs Arc.s γ.arcs.length v).take i, a < γ.arcs.length ∧ (γ.arcs.getD a default).s = v := fun a ha => jS.1 (List.mem_of_mem_take ha)
     obtain ⟨svi, ki⟩ := Sv.scanL hA _ sv rm hl2
     have rmi := rm.keeps ki
     have evi : (((outs γ.arcs Arc.s γ.arcs.length v).take i).foldl (scan1 γ.arcs al pi v) σ).ev.length ≤ 10000 + i := by
      have : ∀ (l : List Nat) (σ : SS), (l.foldl (scan1 γ.arcs al pi v) σ).ev.length ≤ σ.ev.length + l.length := by
       intro l
       induction l with
       | nil => intro σ; simp
       | cons a l ih => intro σ; have h1 := ih (scan1 γ.arcs al pi v σ a); have h2 := qH γ.arcs al pi v σ a; simp only [List.foldl_cons, List.length_cons]; omega
      have h1 := this ((outs γ.arcs Arc.s γ.arcs.length v).take i) σ
      rw [List.length_take] at h1
      omega
     have tk : (outs γ.arcs Arc.s γ.arcs.length v).take (i + 1) = (outs γ.arcs Arc.s γ.arcs.length v).take i ++ [(outs γ.arcs Arc.s γ.arcs.length v)[i]] := by rw [List.take_add_one, List.getElem?_eq_getElem hlt]; rfl
     have nxt : ((outs γ.arcs Arc.s γ.arcs.length v).take (i + 1)).foldl (scan1 γ.arcs al pi v) σ = scan1 γ.arcs al pi v (((outs γ.arcs Arc.s γ.arcs.length v).take i).foldl (scan1 γ.arcs al pi v) σ) (outs γ.arcs Arc.s γ.arcs.length v)[i] := by rw [tk, List.foldl_append]; rfl
     generalize (((outs γ.arcs Arc.s γ.arcs.length v).take i).foldl (scan1 γ.arcs al pi v) σ) = σi at R' svi ki rmi evi nxt
     generalize (outs γ.arcs Arc.s γ.arcs.length v)[i] = a at hm hld nxt
     obtain ⟨ha, hsv⟩ := hm
     obtain ⟨bl, bb, bk, ph, F, vE, hBe, S, H, hF⟩ := R'.open f.ok
     have lB' := R'.lt f.ok
     have hk0 : ∀ c ∈ keys (srL br bl bb bk γ.nodes (ptrTo bp) (ptrTo ph) (.func (.func g1) #[] #[ptrTo ba]) (.func (.func g2) #[] #[ptrTo ba]) vE σi) (srG vE σi), c ∈ B' := fun c hc => by rw [hBe]; exact List.mem_append_left _ hc
     have hk1 : ∀ c ∈ F, c ∈ B' := fun c hc => by rw [hBe]; exact List.mem_append_right _ hc
     have lF := H.lt f.ok
     replace S := S.base
     generalize hKK : keys (srL br bl bb bk γ.nodes (ptrTo bp) (ptrTo ph) (.func (.func g1) #[] #[ptrTo ba]) (.func (.func g2) #[] #[ptrTo ba]) vE σi) (srG vE σi) = KK at S hk0 hF hBe
     unfold srL srG at S
     simp only [BS, LB, Nat.reduceLT, Nat.reduceEqDiff, Tryz.FFs2119, r0, r13, r14, r15, aL, hlt, hidx, hld, cL, S.ld (b := br) (o := 5) (by repeat constructor) rfl]
     refine bH (hal _ gh a ha) ?_; intro h' g'; replace S := S.call g'
     have nh' := g'.n
     cases hala : al a with
     | false =>
       simp only [BS, LB, Nat.reduceLT, Nat.reduceEqDiff, r15, w]
       refine ih (i + 1) _ _ (by omega) ⟨by omega, B', f.trans (M' := NoM) g'.fr (fun _ h => h.elim), ?_, hB', by simp [ac, r0, ah], by simp [ac, r1], by simp [ac, r13], by simp [ac, r14], by simp [ac]⟩
       rw [nxt]
       unfold scan1
       rw [hala, if_neg Bool.false_ne_true]
       exact R'.gr g'
     | true =>
       have fvE : Fl vE := (S.gown _ m0).1.fl
       simp only [BS, LB, Nat.reduceLT, Nat.reduceEqDiff, Nat.reduceAdd, Tryz.FFs2119, r0, S.ld (b := br) (o := 7) (by repeat constructor) rfl]
       refine ao (bu (by first | exact Tryz.u25 | exact Tryz.u38 | exact Tryz.u43 | exact Tryz.u44 | exact Tryz.u163) (by first | exact Tryz.e2E | exact Tryz.e3E | exact Tryz.e4E | exact Tryz.e43E | exact Tryz.e51E) (by decide) (by first | rfl | exact fillE )) S ?_; clear S; intro h bs S n_bs; simp only [aO, aT, ae, List.cons_append, List.nil_append, List.append_nil, List.set_cons_zero, List.set_cons_succ, Nat.reduceMul, Nat.reduceAdd, Nat.zero_mul, Nat.zero_add, Nat.mul_one, Nat.one_mul] at S
       simp only [BS, LB, Nat.reduceLT, Nat.reduceEqDiff]
       have src : aQ h 4 (.slice (some ⟨bs, 0, none⟩) 1 1) = some (1, c9 ⟨1, a, 0⟩) := by simp only [aQ]; rw [S.lds (b := bs) (o := 0) (n := 1 * 4) m0 (lbt rfl)]; rfl
       replace S := S.drop1
       refine fh (S.grow (j := 0) (m := 1) (new := c9 ⟨1, a, 0⟩) rfl Tryz.u44 Tryz.e51E (by decide) Tryz.n44 src rfl (by decide) rfl (by rw [aK gD]; show (_ + 4) * _ ≤ _; omega)) ?_
       clear S src; rintro h2 vE' S
       simp only [List.set_cons_zero] at S
       have fvE' : Fl vE' := (S.gown _ m0).1.fl
       simp only [BS, LB, Nat.reduceLT, Nat.reduceEqDiff, Tryz.FFs2119]
       refine aa (ab S (i := 0) rfl Tryz.s44 fvE' (Nat.lt_of_succ_le (lbt rfl)) ono) ?_
       clear S; rintro h3 ⟨S, _⟩
       simp only [List.set_cons_zero, List.set_cons_succ] at S
       have eE : (σi.ev ++ [(⟨1, a, 0⟩ : Ev)]).flatMap c9 = σi.ev.flatMap c9 ++ c9 ⟨1, a, 0⟩ := by rw [List.flatMap_append]; simp
       rw [← eE] at S
       simp only [BS, LB, Nat.reduceLT, Nat.reduceEqDiff, Tryz.FFs2119, r0, S.ld (b := br) (o := 0) (by repeat constructor) rfl]
       have hKq : ∀ c ∈ KK, hq.n ≤ c := fun c hc => hBq c (hk0 c hc)
       refine step_ret (pY S.ok (hn.gr (gh.mo' S.fr hKq)) ha) ?_
       rintro rv h4 ⟨g4, rfl⟩
       replace S := S.call g4; clear g4
       have ga : γ.arcs[a] = γ.arcs.getD a default := by simp [List.getD_eq_getElem?_getD, ha]
       have aok := hA (γ.arcs.getD a default) (by rw [← ga]; exact List.getElem_mem ha)
       have lv := rmi.2.1
       have ol2 : σi.O.length * dq ≤ 12 * dq := Nat.mul_le_mul_right _ (Nat.le_trans svi.len n2)
       rw [ga]
       simp only [BS, LB, Nat.reduceLT, Nat.reduceEqDiff, Tryz.FFs2119, bI]
       refine ao aH S ?_; clear S; intro h b6 S n_b6
       simp only [BS, LB, Nat.reduceLT, Nat.reduceEqDiff]
       first | refine aa (S.store (i := 0) rfl ?_ ?_ rfl rfl ?_ ono) ?_ | refine aa (S.store (i := 1) rfl ?_ ?_ rfl rfl ?_ ono) ?_ | refine aa (S.store (i := 2) rfl ?_ ?_ rfl rfl ?_ ono) ?_ | refine aa (S.store (i := 3) rfl ?_ ?_ rfl rfl ?_ ono) ?_ | refine aa (S.store (i := 4) rfl ?_ ?_ rfl rfl ?_ ono) ?_ | refine aa (S.store (i := 5) rfl ?_ ?_ rfl rfl ?_ ono) ?_ | refine aa (S.store (i := 6) rfl ?_ ?_ rfl rfl ?_ ono) ?_ | refine aa (S.store (i := 7) rfl ?_ ?_ rfl rfl ?_ ono) ?_
       · exact (by first | exact Tryz.s7 | exact Tryz.s31 | exact Tryz.s51 | exact Tryz.s56 | exact Tryz.s165 | exact Tryz.s182 | exact Tryz.s239)
       · exact (by intro x e; cases e)
       · exact lbt rfl
       clear S; rintro h ⟨S, mo⟩; clear mo; simp only [List.set_cons_zero, List.set_cons_succ, ae, lay, List.take, List.drop, List.nil_append, List.cons_append, List.append_nil, List.length_cons, List.length_nil, Nat.reduceAdd, Nat.add_zero] at S
       simp only [BS, LB, Nat.reduceLT, Nat.reduceEqDiff]
       have lL := (S.row (b := bl) m2).load1 (mL (L := σi.L) hv)
       have wn : aw .i64 ((σi.L v : Int) + ((γ.arcs.getD a default).w : Int)) = ((σi.L v + (γ.arcs.getD a default).w : Nat) : Int) := by rw [wrap64] <;> omega
       refine az (aD rfl) (q := 0) (ps := []) (by kernel_rfl) ?_
       simp only [BS, LB, cls, Nat.reduceLT, Nat.reduceEqDiff, Nat.reduceAdd, Nat.reducePow, Nat.reduceDiv, Nat.reduceMod, Nat.reduceLeDiff, Tryz.FFs2119, r0, r1, wn, hv, lL, S.ld (b := br) (o := 2) (by repeat constructor) rfl, S.ld (b := b6) (o := 1) (by repeat constructor) rfl, S.ld (b := b6) (o := 2) (by repeat constructor) rfl]
       have kn := fun c hc => (S.key_own (b := c) hc).symm
       have kf := S.fr
       have gx := gh.mo' S.fr hKq
       have hF2 : ∀ c ∈ F, c ∉ keys (srL br bl bb bk γ.nodes (ptrTo bp) (ptrTo ph) (.func (.func g1) #[] #[ptrTo ba]) (.func (.func g2) #[] #[ptrTo ba]) vE' (evS σi ⟨1, a, 0⟩)) (srG vE' (evS σi ⟨1, a, 0⟩)) := fun c hc hm => by
        rcases kn c (List.mem_cons_of_mem _ hm) with h1 | h1
        · exact hF c hc h1
        · have := lF c hc; omega
       have R2 := dT.close (σ := evS σi ⟨1, a, 0⟩) (vE := vE') S.drop1 (H.mo kf (fun c hc hm => hF c hc hm)) hF2
       have hB2 : ∀ c ∈ keys (srL br bl bb bk γ.nodes (ptrTo bp) (ptrTo ph) (.func (.func g1) #[] #[ptrTo ba]) (.func (.func g2) #[] #[ptrTo ba]) vE' (evS σi ⟨1, a, 0⟩)) (srG vE' (evS σi ⟨1, a, 0⟩)) ++ F, c ∈ B' ∨ hS.n ≤ c := fun c hc => by
        rcases List.mem_append.1 hc with hc | hc
        · exact (kn c (List.mem_cons_of_mem _ hc)).imp (hk0 c) (fun h => h)
        · exact .inl (hk1 c hc)
       refine di (qk (p := a :: σi.P v) (lab := σi.L v + (γ.arcs.getD a default).w) gx R2 hpi n2 aok.1 (by omega) (hp _ aok.1) (fun k hk => (svi.op _ k hk).2.2.2)) ?_
       rintro rv h5 ⟨f5, B3, R3, hB3⟩
       simp only [BS, LB, Nat.reduceLT, Nat.reduceEqDiff, Nat.reduceAdd, r15, w]
       have nh := f.n
       have nx := kf.n
       have gB : ∀ c, c ∈ B' ∨ hS.n ≤ c → c ∈ B ∨ h1.n ≤ c := fun c hc => hc.elim (hB' c) (fun h => .inr (by omega))
       refine ih (i + 1) _ _ (by omega) ⟨by omega, B3, (f.trans kf (fun c hc => gB c (.inl (hk0 c hc)))).trans f5 (fun c hc => gB c (hB2 c hc)), ?_, fun c hc => gB c ((hB3 c hc).elim (hB2 c) (fun h => .inr (by omega))), by simp [ac, r0, ah], by simp [ac, r1], by simp [ac, r13], by simp [ac, r14], by simp [ac]⟩
       rw [nxt]
       unfold scan1
       rw [hala, if_pos rfl]
       exact R3
   · have ei : i = (outs γ.arcs Arc.s γ.arcs.length v).length := by omega
     simp only [BS, LB, Nat.reduceLT, r14, r15, aL, hlt]
     refine ⟨(g.fr (M := (· ∈ B))).trans f (fun c hc => .inl hc), B', ?_, fun c hc => (hB' c hc).imp (fun h => h) (fun h => by omega)⟩
     rw [ei, List.take_length] at R'
     exact R'
 · exact ⟨Nat.zero_le _, B, Mo.refl ok1, R1, fun c hc => .inl hc, by simp [ac, bN, ah], by simp [ac, bN, eU], by simp [ac], by simp [ac], by simp [ac]⟩
end Go.Ab

end
section
namespace Go.Ab
open Go.Proofs
set_option maxRecDepth 10000
open Tryz in
def Tryz.FFs3177 := aj a1 <| aj s1 <| aj z1 <| aj n1 <| aj u2 <| aj a2 <| aj s2 <| aj z2 <| aj i2 <| aj u3 <| aj a3 <| aj s3 <| aj z3 <| aj i3 <| aj u4 <| aj a4 <| aj s4 <| aj z4 <| aj n4 <| aj u6 <| aj a6 <| aj s6 <| aj z6 <| aj i6 <| aj a7 <| aj s7 <| aj z7 <| aj i7 <| aj n7 <| aj p7 <| aj ff7 <| aj d7 <| aj u43 <| aj a43 <| aj s43 <| aj z43 <| aj q43 <| aj n43 <| aj a145 <| aj s145 <| aj z145 <| n145
open Tryz in
def Tryz.FFs3178 := aj a1 <| aj s1 <| aj z1 <| aj n1 <| aj u2 <| aj a2 <| aj s2 <| aj z2 <| aj i2 <| aj u3 <| aj a3 <| aj s3 <| aj z3 <| aj i3 <| aj u4 <| aj a4 <| aj s4 <| aj z4 <| aj n4 <| aj u25 <| aj a25 <| aj s25 <| aj z25 <| aj q25 <| aj n25 <| aj a31 <| aj s31 <| aj z31 <| aj i31 <| aj n31 <| aj p31 <| aj ff31 <| aj d31 <| aj u33 <| aj a33 <| aj s33 <| aj z33 <| aj q33 <| aj i33 <| aj n33 <| aj u38 <| aj a38 <| aj s38 <| aj z38 <| aj q38 <| aj n38 <| aj u43 <| aj a43 <| aj s43 <| aj z43 <| aj q43 <| aj n43 <| aj u44 <| aj a44 <| aj s44 <| aj z44 <| aj q44 <| aj n44 <| aj a51 <| aj s51 <| aj z51 <| aj i51 <| aj n51 <| aj p51 <| aj ff51 <| aj d51 <| aj a56 <| aj s56 <| aj z56 <| aj i56 <| aj n56 <| aj p56 <| aj ff56 <| aj d56 <| aj a111 <| aj s111 <| aj z111 <| aj n111 <| aj u114 <| aj a114 <| aj s114 <| aj z114 <| aj q114 <| aj i114 <| aj n114 <| aj u163 <| aj a163 <| aj s163 <| aj z163 <| aj q163 <| aj n163 <| aj a165 <| aj s165 <| aj z165 <| aj i165 <| aj n165 <| aj p165 <| aj ff165 <| aj d165 <| aj u178 <| aj a178 <| aj s178 <| aj z178 <| aj q178 <| aj i178 <| aj n178 <| aj a180 <| aj s180 <| aj z180 <| aj n180 <| aj a182 <| aj s182 <| aj z182 <| aj i182 <| aj n182 <| aj p182 <| aj ff182 <| aj d182 <| aj a239 <| aj s239 <| aj z239 <| aj i239 <| aj n239 <| aj p239 <| aj ff239 <| d239
def IterW (E : Env) (g : FuncId) (post : List Value) (h0 : Hp) (D W : Nat → Prop) (xs : List (List Value)) : Prop :=
 ∀ lb J Z, (∀ v h, ¬ Z (.pan v) h) → Yld E lb J Z xs → (∀ i h F h', J i h F → Mo W h h' → J i h' F) → ∀ h F, ItS h0 D h F → (∀ b, W b → h.get b = h0.get b) → (∀ b ∈ F, ¬ W b) → J 0 h F → eS E g ([] ++ [.func (.yield lb) #[] #[]] ++ post) none h (YQ J Z xs.length)
theorem lz (l : List Nat) : (l.flatMap cL).length = l.length := by rw [aK gn]; omega
theorem jU {h : Hp} {p : GL} (g : cF h p) {c : Nat} (hb : av p.1 c) : dK p = some c := by
 rcases g with ⟨e, _⟩ | ⟨b, n, e, _⟩
 · rw [e] at hb; exact hb.elim
 · obtain ⟨v, k, vs⟩ := p
   simp only [] at e hb
   subst e
   exact congrArg some hb
theorem qt {h0 : Hp} (ok : h0.t.Sized h0.n) {g : FuncId} {post : Array Value} {D W : Nat → Prop} {xs : List Nat} (it : IterW Tryz.abEnv g post.toList h0 D W (xs.map fun (x : Nat) => [.int .i64 x])) (hW : ∀ b, W b → b < h0.n) (hn : xs.length < 100000) :
 Ret Tryz.abEnv 177 [.slice none 0 0, .func (.func g) #[] post] h0 fun r h' => Mo W h0 h' ∧ cF h' (r, 1, xs.flatMap cL) ∧ ∀ c, av r c → h0.n ≤ c := by
 have S := St.init (M := NoM) ok
 refine aq (n := 13) (rs := [.tmp 4]) rfl Tryz.e177 rfl rfl rfl (lbt rfl) ?_
 simp only [BS, Nat.reduceLT]
 refine ao (jP (by first | exact aF | exact aM | exact bL | exact aX | exact bK | exact bj | exact bg | exact aR | exact aZ | exact bJ | assumption)) S ?_; clear S; intro h b2 S n_b2
 simp only [BS, Nat.reduceLT, Nat.reduceEqDiff, if_false]
 replace S := S.nilG (k := 1)
 have g0 := S.gr
 replace S := S.monoM (M := W)
 have fr0 := S.fr
 refine lU S (g := g) (a := #[]) (b := post) (by simp [dr, ac, bN, eU]) rfl rfl ?_
 intro h2 db lb S' hdb hlb g2
 obtain ⟨X, hX, S'⟩ : ∃ X : fD, X = _ ∧ St W h0 h2 [(lb, .loop X), (db, .dfr), (b2, .row [.slice none 0 0] 1)] [(.slice none 0 0, 1, [])] := ⟨_, rfl, S'⟩
 have nW : ∀ c, h0.n ≤ c → ¬ W c := fun c h hw => by have := hW c hw; omega
 have hJ : Yld Tryz.abEnv lb (fun k h' F => ∃ (vR : Value), St W h0 h' [(lb, .loop X), (db, .dfr), (b2, .row [vR] 1)] [(vR, 1, (xs.take k).flatMap cL)] ∧ k ≤ xs.length ∧ (∀ c ∈ F, h0.n ≤ c) ∧ F = keys [(lb, .loop X), (db, .dfr), (b2, .row [vR] 1)] [(vR, 1, (xs.take k).flatMap cL)]) (fun _ _ => False) (xs.map fun (x : Nat) => [.int .i64 x]) := by
  refine ⟨?_, ?_, fun _ _ h => h.elim, ?_⟩
  · rintro i h F ⟨vR, S, _, _, rfl⟩; exact ⟨S.ok, fun b hb => S.key_lt hb⟩
  · rintro i h F h' ⟨vR, S, a, b, rfl⟩ gg; exact ⟨vR, S.call gg, a, b, rfl⟩
  · rintro i x hR F hx ⟨vR, S, a, b, rfl⟩
    have hil : i < xs.length := by
     have := (List.getElem?_eq_some_iff.1 hx).1
     simpa using this
    rw [List.getElem?_map, List.getElem?_eq_getElem hil] at hx
    cases hx
    have tk : (xs.take (i + 1)).flatMap cL = (xs.take i).flatMap cL ++ [.int .i64 (xs[i] : Nat)] := by rw [List.take_add_one, List.getElem?_eq_getElem hil, List.flatMap_append]; rfl
    have tl : (xs.take i).length ≤ i := by rw [List.length_take]; omega
    subst hX
    refine ma (S.get m0) (by rw [Tryz.e177]; rfl) rfl ?_
    have S0 := S
    replace S := S.base
    simp only [BS, LB, Nat.reduceLT, Nat.reduceEqDiff]
    refine kY S (i := 0) rfl rfl rfl rfl rfl ?_
    clear S; intro h S
    simp only [List.set_cons_zero] at S
    simp only [BS, LB, Nat.reduceLT, Nat.reduceEqDiff, Tryz.FFs3177, S.ld (b := b2) (o := 0) (by repeat constructor) rfl]
    refine ao (bu (by first | exact Tryz.u43) (by first | exact Tryz.e3E) (by decide) (by first | rfl | exact fillE )) S ?_; clear S; intro h bs S n_bs; simp only [aO, aT, ae, List.cons_append, List.nil_append, List.append_nil, List.set_cons_zero, List.set_cons_succ, Nat.reduceMul, Nat.reduceAdd, Nat.zero_mul, Nat.zero_add, Nat.mul_one, Nat.one_mul] at S
    simp only [BS, LB, Nat.reduceLT, Nat.reduceEqDiff]
    have src : aQ h 1 (.slice (some ⟨bs, 0, none⟩) 1 1) = some (1, [.int .i64 (xs[i] : Nat)]) := by simp only [aQ]; rw [S.lds (b := bs) (o := 0) (n := 1 * 1) m0 (lbt rfl)]; rfl
    replace S := S.drop1
    refine fh (S.grow (j := 0) (m := 1) (new := [.int .i64 (xs[i] : Nat)]) rfl Tryz.u43 Tryz.e3E (by decide) Tryz.n43 src rfl (by decide) rfl (by rw [lz]; simp; omega)) ?_
    clear S src; rintro h vR' S
    simp only [List.set_cons_zero] at S
    have fv : Fl vR' := (S.gown _ m0).1.fl
    simp only [BS, LB, Nat.reduceLT, Nat.reduceEqDiff]
    refine aa (ab S (i := 2) rfl Tryz.s43 fv (Nat.lt_of_succ_le (lbt rfl)) ono) ?_
    clear S; rintro h ⟨S, _⟩
    simp only [List.set_cons_zero, List.set_cons_succ] at S
    simp only [BS]
    refine iA S (i := 0) rfl ?_
    clear S; intro h S
    simp only [List.set_cons_zero, List.set_cons_succ] at S
    rw [← tk] at S
    have fin := S0.rebase S
    refine .inl ⟨rfl, _, ⟨vR', fin, by omega, fun c hc => ?_, rfl⟩, S.fr, fun c hc => (S.key_own hc).symm⟩
    rcases S.key_own hc with h1 | h1
    · have := S0.fr.n; omega
    · exact b c h1
 have hF0 : ∀ c ∈ keys [(lb, Ob.loop X), (db, .dfr), (b2, .row [.slice none 0 0] 1)] [(.slice none 0 0, 1, [])], h0.n ≤ c := fun c hc => by
  have n2 := n_b2
  have := fr0.n
  simp [keys, dK] at hc
  omega
 refine jC (it lb _ _ (fun _ _ h => h) hJ ?_ h2 _ ?_ ?_ (fun c hc => nW c (hF0 c hc)) ⟨_, S', Nat.zero_le _, hF0, rfl⟩) fun o rc h' y => l7 y ?_
 · rintro i h F h' ⟨vR, S, a, b, rfl⟩ gg
   exact ⟨vR, S.step gg (fun c hc => .inl hc) (fun c hc hw => nW c (b c hc) hw), a, b, rfl⟩
 · have gg : Mo W h0 h2 := S'.fr
   exact ⟨S'.ok, S'.fr.n, fun b hb _ => (g0.trans g2).get b hb, fun b hb h => by have := hF0 b hb; omega, fun b hb => S'.key_lt hb⟩
 · exact fun b hb => (g0.trans g2).get b (hW b hb)
 · rintro F ⟨vR, T, a, b, rfl⟩
   rw [List.length_map, List.take_length] at T b
   subst hX
   refine ⟨_, T.get m0, Nat.zero_ne_one, ?_⟩
   replace T := T.dead
   have S := T
   show Run _ _ _ _ _ _ _ _
   simp only [BS, LB, Nat.reduceLT, Nat.reduceEqDiff, Tryz.FFs3177, S.ld (b := b2) (o := 0) (by repeat constructor) rfl]
   refine jo (mI [db] _ (L := [(b2, _)]) T.base fun h3 S3 => ⟨rfl, _, rfl, ?_⟩)
   refine ⟨(T.fr.trans S3.fr (fun c hc => (T.key_own hc).symm) : Mo W h0 h3), (S3.gown _ m0).1, fun x hx => ?_⟩
   refine b x ?_
   have : dK (vR, 1, xs.flatMap cL) = some x := jU (T.gown _ m0).1 hx
   exact fm m0 this
theorem rZ {h0 : Hp} (ok : h0.t.Sized h0.n) {g : FuncId} {post : Array Value} {D W : Nat → Prop} {xs : List Nat} (it : IterW Tryz.abEnv g post.toList h0 D W (xs.map fun (x : Nat) => [.int .i64 x])) (hW : ∀ b, W b → b < h0.n) (hn : xs.length < 100000) :
 Ret Tryz.abEnv 116 [.func (.func g) #[] post] h0 fun r h' => Mo W h0 h' ∧ cF h' (r, 1, xs.flatMap cL) ∧ ∀ c, av r c → h0.n ≤ c := by
 have S := St.init (M := NoM) ok
 refine aq (n := 5) (rs := [.tmp 2]) rfl Tryz.e116 rfl rfl rfl (lbt rfl) ?_
 simp only [BS, LB, Nat.reduceLT, Nat.reduceEqDiff]
 refine step_ret (qt S.ok it hW hn) ?_
 rintro r h ⟨f, q⟩
 simp only [BS, LB, an, Nat.reduceLT, Nat.reduceEqDiff]
 exact ⟨f, q⟩
theorem sback_ok {h0 : Hp} (ok : h0.t.Sized h0.n) {br v : Nat} : Ret Tryz.abEnv 117 [ptrTo br, .int .i64 v] h0 fun r h' => Gr h0 h' ∧ ∃ b1 b2, r = .func (.func 178) #[] #[ptrTo b1, ptrTo b2] ∧ h0.n ≤ b1 ∧ h0.n ≤ b2 ∧ b1 ≠ b2 ∧ h'.load b1 0 1 = some [ptrTo br] ∧ Row h' b2 [.int .i64 v] 1 := by
 have S := St.init (M := NoM) ok
 refine aq (n := 6) (rs := [.tmp 4]) rfl Tryz.e117 rfl rfl rfl (lbt rfl) ?_
 simp only [BS, Nat.reduceLT]
 refine ao (jP (by first | exact aF | exact aM | exact bL | exact aX | exact bK | exact bj | exact bg | exact aR | exact aZ | exact bJ | assumption)) S ?_; clear S; intro h b1 S n_b1
 simp only [BS, Nat.reduceLT, Nat.reduceEqDiff, if_false]
 refine ao (jP (by first | exact aF | exact aM | exact bL | exact aX | exact bK | exact bj | exact bg | exact aR | exact aZ | exact bJ | assumption)) S ?_; clear S; intro h b2 S n_b2
 simp only [BS, LB, an, Nat.reduceLT, Nat.reduceEqDiff]
 have ap := S.apart
 exact ⟨S.gr, b1, b2, rfl, n_b1, n_b2, fun e => (by subst e; simp [keys] at ap), S.ld m1 rfl, S.row m0⟩
theorem back_it {hq h0 : Hp} (okq : hq.t.Sized hq.n) (gq : Gr hq h0) {γ : Gra} (hγ : Good γ) {nb bp : Nat} (hn : dD hq nb (ptrTo bp) γ) {B : List Nat} {br b1 b2 s : Nat} {fal fpi : Value} {σ : SS} {al : Nat → Bool} {pi : Nat → Int} (R : dT h0 B br (ptrTo bp) fal fpi γ.nodes σ) (sv : Sv γ.arcs γ.nodes s al pi σ) {u0 : Nat} (hu : u0 ∈ σ.O)
 (e1 : h0.load b1 0 1 = some [ptrTo br]) (e2 : Row h0 b2 [.int .i64 u0] 1) (d1 : b2 ∉ B) (d2 : b1 ≠ b2) (d3 : hq.n ≤ b2) :
 IterW Tryz.abEnv 178 [ptrTo b1, ptrTo b2] h0 (fun c => c = b1 ∨ c ∈ B ∨ c < hq.n) (· = b2) ((σ.P u0).map fun (a : Nat) => [.int .i64 a]) := by
 intro lb J Z hz Y hW h F s' hb hF hj
 have ok0 := gq.ok
 obtain ⟨bl, bb, bk, ph, F', vE, rfl, hL, _⟩ := R
 have rr : Row h0 br _ 1 := hL _ m0
 have rb : Row h0 bb (byC γ.nodes σ.P) 1 := hL _ m2
 have kr : br ∈ keys (srL br bl bb bk γ.nodes (ptrTo bp) (ptrTo ph) fal fpi vE σ) (srG vE σ) ++ F' := List.mem_append_left _ (by simp [srL, keys])
 have kb : bb ∈ keys (srL br bl bb bk γ.nodes (ptrTo bp) (ptrTo ph) fal fpi vE σ) (srG vE σ) ++ F' := List.mem_append_left _ (by simp [srL, keys])
 generalize keys (srL br bl bb bk γ.nodes (ptrTo bp) (ptrTo ph) fal fpi vE σ) (srG vE σ) ++ F' = B at d1 kr kb s'
 have l0 := rr.load1 (o := 0) rfl
 have l3 := rr.load1 (o := 3) rfl
 have row2 : Row h b2 [.int .i64 u0] 1 := Row.of_get (hb b2 rfl) e2
 have q2 := row2.load1 (o := 0) rfl
 have uN := sv.lt u0 hu
 have q1 := s'.load ok0 e1 (.inl rfl)
 have q3 := s'.load ok0 l3 (.inr (.inl kr))
 have q4 := s'.load ok0 (rb.load1 (byC_at (P := σ.P) uN)) (.inr (.inl kb))
 refine enter (n := 39) (rs := []) rfl Tryz.e178 rfl rfl rfl (lbt rfl) ?_
 simp only [BS, LB]
 refine az (aD rfl) (q := 0) (ps := []) (by kernel_rfl) ?_
 simp only [BS, LB, cls, Nat.reduceLT, Nat.reduceEqDiff, Nat.reduceAdd, Nat.reducePow, Nat.reduceDiv, Nat.reduceMod, Nat.reduceLeDiff, Tryz.FFs3178, q1, q2, q3, q4, uN]
 refine aW (fun (j : Nat) ρ h => j ≤ (σ.P u0).length ∧ ∃ u F, u ∈ σ.O ∧ σ.P u = (σ.P u0).drop j ∧ ItS h0 (fun c => c = b1 ∨ c ∈ B ∨ c < hq.n) h F ∧ b2 ∉ F ∧ J j h F ∧ Row h b2 [.int .i64 (u : Nat)] 1 ∧ ρ 0 = .func (.yield lb) #[] #[] ∧ ρ 1 = ptrTo b1 ∧ ρ 2 = ptrTo b2 ∧ ρ 4 = .int .i64 (byI (σ.P u))) (fun j => (σ.P u0).length - j) ?_ 0 _ _ ?_
 · clear q1 q2 q3 q4 uN row2 hj hF hb s' F h
   intro j ih ρ hS ⟨hj', u, F, hu', hP, s', hF, hj, row2, r0, r1, r2, r4⟩
   have uN := sv.lt u hu'
   rcases sv.path u (.inl hu') with ⟨_, e, _⟩ | ⟨a, ha, hal, ht, hs, e, _⟩
   · have ej : j = (σ.P u0).length := by
      rw [e] at hP
      have := congrArg List.length hP
      rw [List.length_drop] at this
      simp at this; omega
     rw [e] at r4
     simp only [byI] at r4
     simp only [BS, LB, Nat.reduceLT, Nat.reduceEqDiff, Int.reduceLE, r4]
     exact dZ (dE ⟨rfl, _, rfl, rfl, .inl ⟨_, F, rfl, by rw [List.length_map, ← ej]; exact hj⟩⟩)
   · have hlt : j < (σ.P u0).length := by
      rw [e] at hP
      have := congrArg List.length hP
      rw [List.length_drop] at this
      simp at this; omega
     have hd : (σ.P u0)[j] = a ∧ (σ.P u0).drop (j + 1) = σ.P (γ.arcs.getD a default).s := by
      rw [e, List.drop_eq_getElem_cons hlt] at hP
      injection hP with h1 h2
      exact ⟨h1.symm, h2.symm⟩
     have hx : ((σ.P u0).map fun (a : Nat) => [Value.int .i64 a])[j]? = some [.int .i64 (a : Nat)] := by rw [List.getElem?_map, List.getElem?_eq_getElem hlt, hd.1]; rfl
     rw [e] at r4
     simp only [byI] at r4
     have c0 : (0 : Int) ≤ (a : Int) := by omega
     have b2lt := row2.lt s'.ok
     simp only [BS, LB, Nat.reduceLT, Nat.reduceEqDiff, r0, r4, c0]
     refine eP Y s' hj (i := j) hx ?_ ?_ ?_
     · intro h' F2 hj2 s2 f2 hF2
       have row2' : Row h' b2 [.int .i64 (u : Nat)] 1 := f2.has (o := .row _ 1) row2 hF
       have nF2 : b2 ∉ F2 := fun hm => (hF2 b2 hm).elim hF (fun h => by omega)
       have S := St.init1 s2.ok (o := .row _ 1) row2'
       have q1 := s2.load ok0 e1 (.inl rfl)
       have q0 := s2.load ok0 l0 (.inr (.inl kr))
       have q3 := s2.load ok0 l3 (.inr (.inl kr))
       have sN := sv.lt _ hs
       have q4 := s2.load ok0 (rb.load1 (byC_at (P := σ.P) sN)) (.inr (.inl kb))
       have nt : dD h' nb (ptrTo bp) γ := hn.keep okq (s2.keep (Gr.keep gq) gq.n (fun c hc => .inr (.inr hc)))
       simp only [BS, LB, Nat.reduceLT, Nat.reduceEqDiff, Tryz.FFs3178, r1, r4, q1, q0]
       refine step_ret (pY S.ok nt ha) ?_
       rintro rv h4 ⟨g4, rfl⟩
       replace S := S.call g4; clear g4
       have ga : γ.arcs[a] = γ.arcs.getD a default := by simp [List.getD_eq_getElem?_getD, ha]
       rw [ga]
       have nM : ∀ {c}, c = b1 ∨ c ∈ B → ¬ c = b2 := fun hc e => by subst e; exact hc.elim (fun h => d2 h.symm) d1
       simp only [BS, LB, Nat.reduceLT, Nat.reduceEqDiff, Tryz.FFs3178, bI]
       refine ao aH S ?_; clear S; intro h b5 S n_b5
       simp only [BS, LB, Nat.reduceLT, Nat.reduceEqDiff]
       first | refine aa (S.store (i := 0) rfl ?_ ?_ rfl rfl ?_ ono) ?_ | refine aa (S.store (i := 1) rfl ?_ ?_ rfl rfl ?_ ono) ?_ | refine aa (S.store (i := 2) rfl ?_ ?_ rfl rfl ?_ ono) ?_ | refine aa (S.store (i := 3) rfl ?_ ?_ rfl rfl ?_ ono) ?_ | refine aa (S.store (i := 4) rfl ?_ ?_ rfl rfl ?_ ono) ?_ | refine aa (S.store (i := 5) rfl ?_ ?_ rfl rfl ?_ ono) ?_ | refine aa (S.store (i := 6) rfl ?_ ?_ rfl rfl ?_ ono) ?_ | refine aa (S.store (i := 7) rfl ?_ ?_ rfl rfl ?_ ono) ?_
       · exact (by first | exact Tryz.s31 | exact Tryz.s51 | exact Tryz.s56 | exact Tryz.s165 | exact Tryz.s182 | exact Tryz.s239)
       · exact (by intro x e; cases e)
       · exact lbt rfl
       clear S; rintro h ⟨S, mo⟩; clear mo; simp only [List.set_cons_zero, List.set_cons_succ, ae, lay, List.take, List.drop, List.nil_append, List.cons_append, List.append_nil, List.length_cons, List.length_nil, Nat.reduceAdd, Nat.add_zero] at S
       simp only [BS, LB, Nat.reduceLT, Nat.reduceEqDiff, Tryz.FFs3178, r2, S.ld (b := b5) (o := 0) (by repeat constructor) rfl]
       first | refine aa (ab S (i := 0) rfl ?_ ?_ ?_ ono) ?_ | refine aa (ab S (i := 1) rfl ?_ ?_ ?_ ono) ?_ | refine aa (ab S (i := 2) rfl ?_ ?_ ?_ ono) ?_ | refine aa (ab S (i := 3) rfl ?_ ?_ ?_ ono) ?_ | refine aa (ab S (i := 4) rfl ?_ ?_ ?_ ono) ?_ | refine aa (ab S (i := 5) rfl ?_ ?_ ?_ ono) ?_ | refine aa (ab S (i := 6) rfl ?_ ?_ ?_ ono) ?_ | refine aa (ab S (i := 7) rfl ?_ ?_ ?_ ono) ?_
       · exact (by simp only [Tryz.FFs3178])
       · exact (by first | exact aF | exact aM | exact bL | exact aX | exact bK | exact bj | exact bg | exact aR | exact aZ | exact bJ | assumption)
       · exact Nat.lt_of_succ_le (lbt rfl)
       clear S; rintro h ⟨S, mo⟩; clear mo; simp only [List.set_cons_zero, List.set_cons_succ, ae, lay, List.take, List.drop, List.nil_append, List.cons_append, List.append_nil, List.length_cons, List.length_nil, Nat.reduceAdd, Nat.add_zero] at S
       have k1 := S.old q1 (nM (.inl rfl))
       have k3 := S.old q3 (nM (.inr kr))
       have k4 := S.old q4 (nM (.inr kb))
       simp only [BS]
       refine az (aD rfl) (q := 0) (ps := []) (by kernel_rfl) ?_
       simp only [BS, LB, cls, Nat.reduceLT, Nat.reduceEqDiff, Nat.reduceAdd, Nat.reducePow, Nat.reduceDiv, Nat.reduceMod, Nat.reduceLeDiff, Tryz.FFs3178, r1, r2, k1, k3, k4, sN, S.ld (b := b2) (o := 0) (by repeat constructor) rfl]
       have fr := S.fr
       refine ih (j + 1) _ _ (by omega) ⟨by omega, (γ.arcs.getD a default).s, F2, hs, hd.2.symm, ?_, nF2, hW _ _ _ _ hj2 fr, S.row (by simp), by simp [ac, r0], by simp [ac, r1, ah], by simp [ac, r2, ah], by simp [ac]⟩
       exact ⟨fr.ok, Nat.le_trans s2.n fr.n, fun b hb hd => (fr.get b (Nat.lt_of_lt_of_le hb s2.n) (by rcases hd with h | h | h; exact nM (.inl h); exact nM (.inr h); exact fun e => by omega)).trans (s2.data b hb hd), s2.apart, fun b hb => Nat.lt_of_lt_of_le (s2.lt b hb) fr.n⟩
     · intro h' a' _
       simp only [BS, LB, Nat.reduceLT, Nat.reduceEqDiff]
       exact dZ (dE ⟨rfl, _, rfl, rfl, .inr (.inl ⟨_, rfl, a'⟩)⟩)
     · intro v h' a'
       exact absurd a' (hz v h')
 · exact ⟨Nat.zero_le _, u0, F, hu, by rw [List.drop_zero], s', fun hm => hF b2 hm rfl, hj, row2, by simp [ac, et], by simp [ac, et, ah], by simp [ac, et, ah], by simp [ac]⟩
end Go.Ab

end
section
namespace Go.Ab
open Go.Proofs
set_option maxRecDepth 10000
open Tryz in
def Tryz.FFs4118 := aj a1 <| aj s1 <| aj z1 <| aj n1 <| aj u2 <| aj a2 <| aj s2 <| aj z2 <| aj i2 <| aj u3 <| aj a3 <| aj s3 <| aj z3 <| aj i3 <| aj u4 <| aj a4 <| aj s4 <| aj z4 <| aj n4 <| aj u43 <| aj a43 <| aj s43 <| aj z43 <| aj q43 <| n43
def rvC (n k : Nat) (f : Nat → Value) : List Value := (List.range n).map fun p => if p < k ∨ n ≤ p + k then f (n - 1 - p) else f p
theorem i9 {n k : Nat} {f : Nat → Value} : (rvC n k f).length = n := by simp [rvC]
theorem kW {n k i : Nat} {f : Nat → Value} (h : i < n) : (rvC n k f)[i]? = some (if i < k ∨ n ≤ i + k then f (n - 1 - i) else f i) := gI (F := fun p => if p < k ∨ n ≤ p + k then f (n - 1 - p) else f p) h
theorem rvC_step {n k : Nat} {f : Nat → Value} (h : 2 * k + 1 < n) : ((rvC n k f).set k (f (n - 1 - k))).set (n - 1 - k) (f k) = rvC n (k + 1) f := by
 refine List.ext_getElem? fun i => ?_
 rw [List.getElem?_set, List.getElem?_set, List.length_set, i9]
 by_cases hi : i < n
 · rw [kW hi, kW hi]
   by_cases e1 : n - 1 - k = i
   · subst e1
     rw [if_pos rfl, if_pos hi, if_pos (.inr (by omega)), show n - 1 - (n - 1 - k) = k by omega]
   · rw [if_neg e1]
     by_cases e2 : k = i
     · subst e2
       rw [if_pos rfl, if_pos hi, if_pos (.inl (by omega))]
     · rw [if_neg e2]
       congr 1
       by_cases c : i < k ∨ n ≤ i + k
       · rw [if_pos c, if_pos (by omega)]
       · rw [if_neg c, if_neg (by omega)]
 · rw [if_neg (by omega), if_neg (by omega)]
   rw [List.getElem?_eq_none (by rw [i9]; omega), List.getElem?_eq_none (by rw [i9]; omega)]
theorem rvC_zero {xs : List Nat} : xs.flatMap cL = rvC xs.length 0 fun p => .int .i64 (xs.getD p 0 : Nat) := by
 have e : xs.flatMap cL = xs.map fun (x : Nat) => Value.int .i64 x := by
  rw [List.flatMap_eq_foldl, List.map_eq_flatMap, List.flatMap_eq_foldl]; rfl
 rw [e]
 refine List.ext_getElem? fun i => ?_
 by_cases hi : i < xs.length
 · rw [kW hi, if_neg (by omega)]; simp [hi]
 · rw [List.getElem?_eq_none (by simpa using hi), List.getElem?_eq_none (by rw [i9]; omega)]
theorem rvC_done {xs : List Nat} {k : Nat} (h : xs.length ≤ 2 * k + 1) (hk : 2 * k ≤ xs.length) : rvC xs.length k (fun p => .int .i64 (xs.getD p 0 : Nat)) = xs.reverse.flatMap cL := by
 have e : xs.reverse.flatMap cL = xs.reverse.map fun (x : Nat) => Value.int .i64 x := by
  rw [List.flatMap_eq_foldl, List.map_eq_flatMap, List.flatMap_eq_foldl]; rfl
 rw [e]
 refine List.ext_getElem? fun i => ?_
 by_cases hi : i < xs.length
 · rw [kW hi, List.getElem?_map, List.getElem?_reverse hi]
   have hj : xs.length - 1 - i < xs.length := by omega
   rw [List.getElem?_eq_getElem hj]
   have g : ∀ {j : Nat} (hj : j < xs.length), xs.getD j 0 = xs[j] := fun hj => by simp [List.getD_eq_getElem?_getD, hj]
   by_cases c : i < k ∨ xs.length ≤ i + k
   · rw [if_pos c, g hj]; rfl
   · rw [if_neg c]
     have : i = xs.length - 1 - i := by omega
     rw [g hi]
     simp only [Option.map_some]
     congr 3
     simp only [← this]
 · rw [List.getElem?_eq_none (by rw [i9]; omega), List.getElem?_eq_none (by simpa using hi)]
theorem sq {h0 : Hp} (ok : h0.t.Sized h0.n) {v : Value} {xs : List Nat} (hG : cF h0 (v, 1, xs.flatMap cL)) (hn : xs.length < 1000000) :
 Ret Tryz.abEnv 118 [v] h0 fun _ h' => Mo (av v) h0 h' ∧ cF h' (v, 1, xs.reverse.flatMap cL) := by
 rcases hG with ⟨e1, e2⟩ | ⟨b, n, e1, e2, e3⟩
 · simp only [] at e1 e2
   subst e1
   have : xs = [] := by
    cases xs with
    | nil => rfl
    | cons a l => simp [cL] at e2
   subst this
   have S := St.init (M := NoM) ok
   refine aq (n := 28) (rs := []) rfl Tryz.e118 rfl rfl rfl (lbt rfl) ?_
   simp only [BS, LB, Nat.reduceLT, Nat.reduceEqDiff, Int.reduceSub, Int.cast_ofNat_Int, Tryz.FFs4118]
   rw [cN]
   have wm : aw .i64 (-1) = -1 := rfl
   have c0 : ¬ ((0 : Int) < -1) := by omega
   simp only [BS, LB, Nat.reduceLT, Nat.reduceEqDiff, wm, c0]
   exact ⟨S.gr.fr, .inl ⟨rfl, rfl⟩⟩
 · simp only [] at e1 e2 e3
   subst e1
   have en : n = xs.length := by rw [lz] at e2; omega
   subst en
   rw [rvC_zero] at e3
   have S := St.init1 ok (o := .row _ 1) e3
   have w1 : aw .i64 ((xs.length : Int) - 1) = (xs.length : Int) - 1 := by rw [wrap64] <;> omega
   refine aq (n := 28) (rs := []) rfl Tryz.e118 rfl rfl rfl (lbt rfl) ?_
   simp only [BS, LB, Nat.reduceLT, Nat.reduceEqDiff, Tryz.FFs4118, w1]
   refine aW (fun (k : Nat) ρ h => 2 * k ≤ xs.length ∧ St (· = b) h0 h [(b, .row (rvC xs.length k fun p => .int .i64 (xs.getD p 0 : Nat)) 1)] [] ∧ ρ 0 = .slice (some ⟨b, 0, some 1⟩) xs.length xs.length ∧ ρ 2 = .int .i64 (k : Nat) ∧ ρ 3 = .int .i64 ((xs.length : Int) - 1 - k)) (fun k => xs.length - k) ?_ 0 _ _ ?_
   · clear S
     intro k ih ρ hS ⟨hk, S, r0, r2, r3⟩
     by_cases hlt : 2 * k + 1 < xs.length
     · have c1 : (k : Int) < (xs.length : Int) - 1 - k := by omega
       have hk1 : k < xs.length := by omega
       have hk2 : xs.length - 1 - k < xs.length := by omega
       have ej : (xs.length : Int) - 1 - k = ((xs.length - 1 - k : Nat) : Int) := by omega
       have wa : aw .i64 ((k : Int) + 1) = ((k + 1 : Nat) : Int) := by rw [wrap64] <;> omega
       have wb : aw .i64 (((xs.length - 1 - k : Nat) : Int) - 1) = (xs.length : Int) - 1 - (k + 1 : Nat) := by rw [wrap64] <;> omega
       have q1 := (S.row (b := b) m0).load1 (kW hk1)
       have q2 := (S.row (b := b) m0).load1 (kW hk2)
       rw [if_neg (by omega)] at q1 q2
       rw [ej] at r3 c1
       simp only [BS, LB, Nat.reduceLT, Nat.reduceEqDiff, r2, r3, c1]
       refine az (aD rfl) (q := 0) (ps := []) (by kernel_rfl) ?_
       simp only [BS, LB, cls, Nat.reduceLT, Nat.reduceEqDiff, Nat.reduceAdd, Nat.reducePow, Nat.reduceDiv, Nat.reduceMod, Nat.reduceLeDiff, Tryz.FFs4118, r0, r2, r3, hk1, hk2, q1, q2]
       refine aJ (ab S (i := 0) rfl Tryz.s3 aF (by rw [i9]; exact hk1) ono) ?_
       clear S; rintro h3 ⟨S, mo1⟩
       simp only [List.set_cons_zero, List.set_cons_succ] at S
       simp only [BS, LB, cls, Nat.reduceLT, Nat.reduceEqDiff, Nat.reduceAdd, Nat.reducePow, Nat.reduceDiv, Nat.reduceMod, Nat.reduceLeDiff, Tryz.FFs4118, hk2]
       refine aJ (ab S (i := 0) rfl Tryz.s3 aF (by rw [List.length_set, i9]; exact hk2) ono) ?_
       clear S; rintro h4 ⟨S, mo2⟩
       simp only [List.set_cons_zero, List.set_cons_succ] at S
       have st := rvC_step (f := fun p => .int .i64 (xs.getD p 0 : Nat)) hlt
       rw [st] at S
       simp only [BS, LB, Nat.reduceLT, Nat.reduceEqDiff, Nat.reduceAdd, r2, r3, wa, wb]
       exact ih (k + 1) _ _ (by omega) ⟨by omega, S, by simp [ac, r0], by simp [ac], by simp [ac]⟩
     · have c1 : ¬ (k : Int) < (xs.length : Int) - 1 - k := by omega
       simp only [BS, LB, Nat.reduceLT, Nat.reduceEqDiff, r2, r3, c1]
       have fin := S.row m0
       rw [rvC_done (by omega) hk] at fin
       exact ⟨S.fr.mono (fun c hc => Eq.symm hc), .inr ⟨b, xs.length, rfl, by show xs.length * 1 = (xs.reverse.flatMap cL).length; rw [lz, List.length_reverse]; omega, fin⟩⟩
   · exact ⟨by omega, S, by simp [ac, bN], by simp [ac], by simp [ac]⟩
end Go.Ab

end
section
namespace Go.Ab
open Go.Proofs
set_option maxRecDepth 10000
open Tryz in
def Tryz.FFs557 := aj a1 <| aj s1 <| aj z1 <| aj n1 <| aj u2 <| aj a2 <| aj s2 <| aj z2 <| aj i2 <| aj u3 <| aj a3 <| aj s3 <| aj z3 <| aj i3 <| aj u4 <| aj a4 <| aj s4 <| aj z4 <| aj n4 <| aj u5 <| aj a5 <| aj s5 <| aj z5 <| aj i5 <| aj u6 <| aj a6 <| aj s6 <| aj z6 <| aj i6 <| aj a7 <| aj s7 <| aj z7 <| aj i7 <| aj n7 <| aj p7 <| aj ff7 <| aj d7 <| aj a8 <| aj s8 <| aj z8 <| aj i8 <| aj n8 <| aj p8 <| aj ff8 <| aj d8 <| aj u9 <| aj a9 <| aj s9 <| aj z9 <| aj n9 <| aj u10 <| aj a10 <| aj s10 <| aj z10 <| aj n10 <| aj u11 <| aj a11 <| aj s11 <| aj z11 <| aj n11 <| aj u25 <| aj a25 <| aj s25 <| aj z25 <| aj q25 <| aj n25 <| aj u33 <| aj a33 <| aj s33 <| aj z33 <| aj q33 <| aj i33 <| aj n33 <| aj u38 <| aj a38 <| aj s38 <| aj z38 <| aj q38 <| aj n38 <| aj u43 <| aj a43 <| aj s43 <| aj z43 <| aj q43 <| aj n43 <| aj u44 <| aj a44 <| aj s44 <| aj z44 <| aj q44 <| aj n44 <| aj a46 <| aj s46 <| aj z46 <| aj i46 <| aj n46 <| aj p46 <| aj ff46 <| aj d46 <| aj a51 <| aj s51 <| aj z51 <| aj i51 <| aj n51 <| aj p51 <| aj ff51 <| aj d51 <| aj a111 <| aj s111 <| aj z111 <| aj n111 <| aj u114 <| aj a114 <| aj s114 <| aj z114 <| aj q114 <| aj i114 <| aj n114 <| aj a145 <| aj s145 <| aj z145 <| aj n145 <| aj a165 <| aj s165 <| aj z165 <| aj i165 <| aj n165 <| aj p165 <| aj ff165 <| aj d165 <| aj u178 <| aj a178 <| aj s178 <| aj z178 <| aj q178 <| aj i178 <| aj n178 <| aj a180 <| aj s180 <| aj z180 <| aj n180 <| aj a182 <| aj s182 <| aj z182 <| aj i182 <| aj n182 <| aj p182 <| aj ff182 <| aj d182 <| aj a237 <| aj s237 <| aj z237 <| aj i237 <| aj n237 <| aj p237 <| aj ff237 <| aj d237 <| aj a239 <| aj s239 <| aj z239 <| aj i239 <| aj n239 <| aj p239 <| aj ff239 <| d239
def zS : SS := ⟨fun _ => none, fun _ => 0, fun _ => [], [], []⟩
def FdAt (h : Hp) (m : Nat) (r : Value) (fd : Fd) : Prop := ∃ vA vE, r = .agg ⟨[.int .i64 (fd.dist : Nat), vA, vE]⟩ ∧ cF h (vA, 1, fd.arcs.flatMap cL) ∧ cF h (vE, 4, fd.ev.flatMap c9) ∧ (∀ c, av vA c → m ≤ c ∧ ¬ av vE c) ∧ ∀ c, av vE c → m ≤ c
theorem qK (A : List Arc) (al : Nat → Bool) (pi : Nat → Int) (v : Nat) (σ : SS) : (kx A al pi v σ).ev.length ≤ σ.ev.length + A.length := by
 have : ∀ (l : List Nat) (σ : SS), (l.foldl (scan1 A al pi v) σ).ev.length ≤ σ.ev.length + l.length := by
  intro l
  induction l with
  | nil => intro σ; simp
  | cons a l ih => intro σ; have h1 := ih (scan1 A al pi v σ a); have h2 := qH A al pi v σ a; simp only [List.foldl_cons, List.length_cons]; omega
 have h1 := this (outs A Arc.s A.length v) σ
 have h2 := kZ A Arc.s A.length v
 unfold kx
 omega
theorem srun_ok {hq h0 : Hp} (okq : hq.t.Sized hq.n) (gq : Gr hq h0) {γ : Gra} (hγ : Good γ) {nb bp : Nat} (hn : dD hq nb (ptrTo bp) γ) {B0 : List Nat} {br ba s to : Nat} {g1 g2 : FuncId} {al : Nat → Bool} {pi : Nat → Int} (R0 : dT h0 B0 br (ptrTo bp) (.func (.func g1) #[] #[ptrTo ba]) (.func (.func g2) #[] #[ptrTo ba]) γ.nodes zS) (hB0 : ∀ c ∈ B0, hq.n ≤ c) (hal : AlF Tryz.abEnv hq g1 ba γ.arcs.length al) (hpi : PiF Tryz.abEnv hq g2 ba γ.nodes pi) (hp : ∀ v, v < γ.nodes → -(FAR : Int) ≤ pi v)
 (hs : s < γ.nodes) (hto : to < γ.nodes) :
 Ret Tryz.abEnv 57 [ptrTo br, .int .i64 (s : Nat), .int .i64 (to : Nat)] h0 fun r h' => Gr hq h' ∧ ∃ fd, Ends γ.arcs al pi to (iB pi s) fd ∧ FdAt h' hq.n r fd := by
 have ok := gq.ok
 have n1 := hγ.n1
 have n2 := hγ.n2
 have many := hγ.many
 have wm := mV
 have fr := jO
 have hA : ∀ a ∈ γ.arcs, a.t < γ.nodes ∧ a.w ≤ dq := fun a ha => ⟨(hγ.arcs a ha).2.1, (hγ.arcs a ha).2.2⟩
 have lB := R0.lt ok
 have S := St.init (M := NoM) ok
 refine aq (n := 79) (rs := [.cell 6 46]) rfl Tryz.e57 rfl rfl rfl (lbt rfl) ?_
 simp only [BS, Tryz.FFs557]
 refine ao aH S ?_; clear S; intro h b6 S n_b6
 simp only [BS, LB, Nat.reduceLT, Nat.reduceEqDiff]
 have row6 := S.row (b := b6) m0
 have gA := S.gr
 have okA := S.ok
 have l6 := row6.lt okA
 have n6 : b6 ∉ B0 := fun h => by have := lB b6 h; have := n_b6; omega
 have q6 : hq.n ≤ b6 := Nat.le_trans gq.n n_b6
 clear S
 rename Hp => hA'
 have rc : Ret Tryz.abEnv 114 [ptrTo br, .int .i64 (s : Nat), .int .i64 0, .int .i64 (-1)] hA' _ := qk (p := []) (lab := 0) (gq.trans gA) (R0.gr gA) hpi n2 hs (Nat.zero_le _) (hp s hs) (fun k h => by cases h)
 refine step_ret rc ?_
 rintro r h1 ⟨f1, B1, R1, hB1⟩
 clear rc
 simp only [BS]
 refine aW (fun (σ : SS) ρ h => ∃ B, Mo (fun c => c ∈ B0 ∨ c = b6) hA' h ∧ Row h b6 [.int .i64 0, .slice none 0 0, .slice none 0 0] 1 ∧ dT h B br (ptrTo bp) (.func (.func g1) #[] #[ptrTo ba]) (.func (.func g2) #[] #[ptrTo ba]) γ.nodes σ ∧ (∀ c ∈ B, c ∈ B0 ∨ hA'.n ≤ c) ∧ Sv γ.arcs γ.nodes s al pi σ ∧ σ.ev.length ≤ σ.O.length * 200 ∧ (∀ r, Ends γ.arcs al pi to σ r → Ends γ.arcs al pi to (iB pi s) r) ∧ ρ 0 = ptrTo br ∧ ρ 1 = .int .i64 (s : Nat) ∧ ρ 2 = .int .i64 (to : Nat) ∧ ρ 6 = ptrTo b6) (fun σ => γ.nodes - σ.O.length) ?_ (iB pi s) _ _ ?_
 · clear R1 f1 hB1 B1 h1
   intro σ ih ρ hS ⟨B, f, row6', R, hB, sv, hev, hE, r0, r1, r2, r6⟩
   have hBq : ∀ c ∈ B, hq.n ≤ c := fun c hc => (hB c hc).elim (hB0 c) (fun h => by have := (gq.trans gA).n; omega)
   have gh : Gr hq hS := (((gq.trans gA).fr (M := NoM)).trans f (fun c hc => .inr (hc.elim (hB0 c) (fun e => by subst e; exact q6)))).gr
   have b6B : b6 ∉ B := fun h => (hB b6 h).elim n6 (fun h => by omega)
   have ol := sv.len
   have ol2 : σ.O.length * dq ≤ 12 * dq := Nat.mul_le_mul_right _ (Nat.le_trans ol n2)
   obtain ⟨bl, bb, bk, ph, F, vE, hBe, S, H, hF⟩ := R.open f.ok
   have hk0 : ∀ c ∈ keys (srL br bl bb bk γ.nodes (ptrTo bp) (ptrTo ph) (.func (.func g1) #[] #[ptrTo ba]) (.func (.func g2) #[] #[ptrTo ba]) vE σ) (srG vE σ), c ∈ B := fun c hc => by rw [hBe]; exact List.mem_append_left _ hc
   have hk1 : ∀ c ∈ F, c ∈ B := fun c hc => by rw [hBe]; exact List.mem_append_right _ hc
   have lF := H.lt f.ok
   replace S := (S.base.mono (M' := fun c => c ∈ B ∨ c = b6) (fun c hc => .inl (hk0 c hc))).push (b := b6) (o := .row _ 1) (.inr (.inr rfl)) row6' (fun h => b6B (hk0 b6 h))
   have hF6 : ∀ c ∈ F, c ≠ b6 := fun c hc e => b6B (by rw [← e]; exact hk1 c hc)
   have hFS : ∀ c ∈ F, c ∉ keys ((b6, Ob.row [.int .i64 0, .slice none 0 0, .slice none 0 0] 1) :: srL br bl bb bk γ.nodes (ptrTo bp) (ptrTo ph) (.func (.func g1) #[] #[ptrTo ba]) (.func (.func g2) #[] #[ptrTo ba]) vE σ) (srG vE σ) := fun c hc hm => (List.mem_cons.1 hm).elim (hF6 c hc) (hF c hc)
   unfold srL srG at S
   simp only [BS, LB, Nat.reduceLT, Nat.reduceEqDiff, Tryz.FFs557, r0, S.ld (b := br) (o := 1) (by repeat constructor) rfl]
   refine step_ret (sH S.ok H (by omega)) ?_
   rintro rv h2 (⟨rfl, hnone, g2'⟩ | ⟨v, k, rfl, hk, hmin, f2, H2⟩)
   · replace S := S.call g2'
     have fvE : Fl vE := (S.gown _ m0).1.fl
     simp only [BS, LB, Nat.reduceLT, Nat.reduceEqDiff, Nat.reduceAdd, Tryz.FFs557, r0, r6, fvE, S.ld (b := br) (o := 7) (by repeat constructor) rfl]
     refine aa (S.store (i := 0) rfl Tryz.s46 (by intro x e; cases e) rfl (by simp only [ae, List.all_cons, List.all_nil, fvE.2.1, Bool.and_true]; rfl) (lbt rfl) ono) ?_
     clear S; rintro h3 ⟨S, mo⟩
     simp only [List.set_cons_zero, List.set_cons_succ, ae, lay, List.take, List.drop, List.nil_append, List.cons_append, List.append_nil, List.length_cons, List.length_nil, Nat.reduceAdd, Nat.add_zero] at S
     simp only [BS, an]
     refine (h9 (by decide) (by simp only [bc, r6, ah, Nat.reduceEqDiff, reduceIte]; exact cG Tryz.a46 Tryz.s46 (S.lds (b := b6) (o := 0) (n := 3) m0 (lbt rfl)))).2 (ik.2 ?_)
     refine ⟨(gh.fr (M := NoM)).trans S.fr (fun c hc => .inr (hc.elim (hBq c) (fun e => by subst e; exact q6))) |>.gr, _, hE _ (.none hnone), .slice none 0 0, vE, rfl, .inl ⟨rfl, rfl⟩, (S.gown _ m0).1, fun c hc => hc.elim, fun c hc => ?_⟩
     have := (S.gown _ m0).2 c (jU (S.gown _ m0).1 hc)
     exact this.elim (fun h => Nat.le_trans gh.n h) (fun h => h.elim (hBq c) (fun e => by subst e; exact q6))
   · have hpop : Pops σ.K v k := ⟨hk, hmin⟩
     obtain ⟨ov, nO, pv, ek⟩ := sv.op v k hk
     replace S := S.stepF f2 (fun c hc => ⟨.inl (.inl (hk1 c hc)), hFS c hc⟩)
     have bv := (sv.bd v).1
     have Sp := S
     have lF2 := H2.lt Sp.ok
     have kp : ∀ c ∈ keys ((b6, Ob.row [.int .i64 0, .slice none 0 0, .slice none 0 0] 1) :: srL br bl bb bk γ.nodes (ptrTo bp) (ptrTo ph) (.func (.func g1) #[] #[ptrTo ba]) (.func (.func g2) #[] #[ptrTo ba]) vE σ) (srG vE σ), hS.n ≤ c ∨ c ∈ B ∨ c = b6 := fun c hc => Sp.key_own hc
     have kl := fun {c} hc => Sp.key_lt (b := c) hc
     have np := Sp.fr.n
     replace S := S.base
     have fvE : Fl vE := (S.gown _ m0).1.fl
     simp only [BS, LB, Nat.reduceLT, Nat.reduceEqDiff, Tryz.FFs557, r0, ov, S.ld (b := br) (o := 4) (by repeat constructor) rfl]
     refine aa (ab S (i := 4) rfl Tryz.s4 aX (by rw [clC_len]; exact ov) ono) ?_
     clear S; rintro h3 ⟨S, mo3⟩
     simp only [List.set_cons_zero, List.set_cons_succ] at S
     rw [clC_set] at S
     have lL := (S.row (b := bl) m2).load1 (mL (L := σ.L) ov)
     simp only [BS]
     refine az (aD rfl) (q := 16384) (ps := []) (by kernel_rfl) ?_
     simp only [BS, LB, cls, Nat.reduceLT, Nat.reduceEqDiff, Nat.reduceAdd, Nat.reducePow, Nat.reduceDiv, Nat.reduceMod, Nat.reduceLeDiff, Tryz.FFs557, r0, ov, lL, S.ld (b := br) (o := 7) (by repeat constructor) rfl, S.ld (b := br) (o := 2) (by repeat constructor) rfl]
     refine bM (bu (by first | exact Tryz.u25 | exact Tryz.u38 | exact Tryz.u43 | exact Tryz.u44) (by first | exact Tryz.e2E | exact Tryz.e3E | exact Tryz.e4E | exact Tryz.e51E) (by decide) (by first | rfl | exact fillE )) S ?_; clear S; intro h bs S n_bs e_bs; simp only [aO, aT, ae, List.cons_append, List.nil_append, List.append_nil, List.set_cons_zero, List.set_cons_succ, Nat.reduceMul, Nat.reduceAdd, Nat.zero_mul, Nat.zero_add, Nat.mul_one, Nat.one_mul] at S
     simp only [BS, LB, cls, Nat.reduceLT, Nat.reduceEqDiff, Nat.reduceAdd, Nat.reducePow, Nat.reduceDiv, Nat.reduceMod, Nat.reduceLeDiff]
     have src : aQ h 4 (.slice (some ⟨bs, 0, none⟩) 1 1) = some (1, c9 ⟨0, v, σ.L v⟩) := by simp only [aQ]; rw [S.lds (b := bs) (o := 0) (n := 1 * 4) m0 (lbt rfl)]; rfl
     replace S := S.drop1
     refine hQ (S.grow (j := 0) (m := 1) (new := c9 ⟨0, v, σ.L v⟩) rfl Tryz.u44 Tryz.e51E (by decide) Tryz.n44 src rfl (by decide) rfl (by rw [aK gD]; show (_ + 4) * _ ≤ _; omega)) ?_
     clear S src; rintro h2 vE' S
     simp only [List.set_cons_zero] at S
     have fvE' : Fl vE' := (S.gown _ m0).1.fl
     simp only [BS, LB, cls, Nat.reduceLT, Nat.reduceEqDiff, Nat.reduceAdd, Nat.reducePow, Nat.reduceDiv, Nat.reduceMod, Nat.reduceLeDiff, Tryz.FFs557]
     refine aJ (ab S (i := 1) rfl Tryz.s44 fvE' (Nat.lt_of_succ_le (lbt rfl)) ono) ?_
     clear S; rintro h3 ⟨S, _⟩
     simp only [List.set_cons_zero, List.set_cons_succ] at S
     have eE : (σ.ev ++ [(⟨0, v, σ.L v⟩ : Ev)]).flatMap c9 = σ.ev.flatMap c9 ++ c9 ⟨0, v, σ.L v⟩ := by rw [List.flatMap_append]; simp
     rw [← eE] at S
     have bq : ∀ c, hS.n ≤ c ∨ c ∈ B ∨ c = b6 → hq.n ≤ c := fun c hc => hc.elim (fun h => Nat.le_trans gh.n h) (fun h => h.elim (hBq c) (fun e => by subst e; exact q6))
     have wq := (((gh.fr (M := NoM)).trans Sp.fr (fun c hc => .inr (bq c (.inr hc)))).trans S.fr (fun c hc => .inr (bq c (kp c hc)))).gr
     have svc := sv.close hk
     have kn := fun {c} hc => S.key_own (b := c) hc
     have nS := S.fr.n
     have hFc : ∀ c ∈ F, c ∉ keys (srL br bl bb bk γ.nodes (ptrTo bp) (ptrTo ph) (.func (.func g1) #[] #[ptrTo ba]) (.func (.func g2) #[] #[ptrTo ba]) vE' (cm σ v)) (srG vE' (cm σ v)) := fun c hc hm => by
      rcases kn (List.mem_cons_of_mem _ hm) with h | h
      · have := lF2 c hc; omega
      · exact hFS c hc h
     have Hc : cU _ F (ptrTo ph) γ.nodes (cm σ v).K := H2.mo S.fr (fun c hc hm => hFS c hc hm)
     have Rc := dT.close (σ := cm σ v) (vE := vE') S.drop1 Hc hFc
     have hBc : ∀ c ∈ keys (srL br bl bb bk γ.nodes (ptrTo bp) (ptrTo ph) (.func (.func g1) #[] #[ptrTo ba]) (.func (.func g2) #[] #[ptrTo ba]) vE' (cm σ v)) (srG vE' (cm σ v)) ++ F, hS.n ≤ c ∨ c ∈ B := fun c hc => by
      rcases List.mem_append.1 hc with hc | hc
      · have ne : c ≠ b6 := fun e => by
         subst e
         exact (List.nodup_cons.1 S.apart).1 hc
        rcases kn (List.mem_cons_of_mem _ hc) with h | h
        · exact .inl (by omega)
        · exact (kp c h).imp (fun h => h) (fun h => h.elim (fun h => h) (fun e => absurd e ne))
      · exact .inr (hk1 c hc)
     have hBcq : ∀ c ∈ keys (srL br bl bb bk γ.nodes (ptrTo bp) (ptrTo ph) (.func (.func g1) #[] #[ptrTo ba]) (.func (.func g2) #[] #[ptrTo ba]) vE' (cm σ v)) (srG vE' (cm σ v)) ++ F, hq.n ≤ c := fun c hc => bq c ((hBc c hc).imp (fun h => h) .inl)
     have okc := S.ok
     have k3 := fun {c} hc => S.key_lt (b := c) hc
     have bo : ∀ c, hS.n ≤ c ∨ c ∈ B ∨ c = b6 → (c ∈ B0 ∨ c = b6) ∨ hA'.n ≤ c := fun c hc => hc.elim (fun h => .inr (Nat.le_trans f.n h)) (fun h => h.elim (fun h => (hB c h).imp .inl (fun h => h)) (fun e => .inl (.inr e)))
     have lbc := Rc.lt okc
     by_cases hv : v = to
     · subst hv
       simp only [BS, LB, Nat.reduceLT, Nat.reduceEqDiff, Nat.reduceAdd, r0, r2]
       refine step_ret (sback_ok S.ok) ?_
       rintro rv h4 ⟨g4, b1, b2, rfl, nb1, nb2, nb, e1, e2⟩
       replace S := S.call g4
       have gn4 := g4.n
       simp only [BS, LB, Nat.reduceLT, Nat.reduceEqDiff]
       have pl := (svc.bd v).2
       have ol4 := svc.len
       refine step_ret (rZ S.ok (back_it okq (wq.trans g4) hγ hn (Rc.gr g4) svc (List.mem_append_right _ (by simp)) e1 e2 (fun h => by have := lbc b2 h; omega) nb (Nat.le_trans wq.n nb2)) (fun b hb => by subst hb; exact e2.lt g4.ok) (by omega)) ?_
       rintro vA h5 ⟨fW, gA5, hcA⟩
       replace S := S.step fW (fun c hc => .inr (by subst hc; omega)) (fun c hc e => by subst e; have := k3 hc; omega)
       simp only [BS, LB, Nat.reduceLT, Nat.reduceEqDiff]
       refine step_ret (sq S.ok gA5 (by omega)) ?_
       rintro rv h6 ⟨fR, gR⟩
       have gn5 := fW.n
       have nAk : ∀ c, av vA c → _ ≤ c := hcA
       replace S := S.step fR (fun c hc => .inr (by have := hcA c hc; omega)) (fun c hc hb => by have := k3 hc; have := hcA c hb; omega)
       have fvA : Fl vA := gR.fl
       have lL := (S.row (b := bl) m2).load1 (mL (L := σ.L) ov)
       simp only [BS]
       refine az (aD rfl) (q := 0) (ps := []) (by kernel_rfl) ?_
       simp only [BS, LB, cls, Nat.reduceLT, Nat.reduceEqDiff, Nat.reduceAdd, Nat.reducePow, Nat.reduceDiv, Nat.reduceMod, Nat.reduceLeDiff, Tryz.FFs557, r0, r2, r6, ov, lL, fvE', fvA, S.ld (b := br) (o := 2) (by repeat constructor) rfl, S.ld (b := br) (o := 7) (by repeat constructor) rfl]
       refine aJ (S.store (i := 0) rfl Tryz.s46 (by intro x e; cases e) rfl (by simp only [ae, List.all_cons, List.all_nil, fvE'.2.1, fvA.2.1, Bool.and_true]; rfl) (lbt rfl) ono) ?_
       have b6A : ∀ c, av vA c → c ≠ b6 := fun c hc e => by have := hcA c hc; have := k3 (c := b6) (by simp [keys]); omega
       have kA : ∀ c, av vA c → ¬ av vE' c := fun c hc he => by
        have := hcA c hc
        have := k3 (fm (p := (vE', 4, _)) m0 (jU (S.gown _ m0).1 he))
        omega
       clear S; rintro h7 ⟨S, mo⟩
       simp only [List.set_cons_zero, List.set_cons_succ, ae, lay, List.take, List.drop, List.nil_append, List.cons_append, List.append_nil, List.length_cons, List.length_nil, Nat.reduceAdd, Nat.add_zero] at S
       simp only [BS, LB, an, Nat.reduceAdd]
       refine (h9 (by decide) (by simp only [bc, r6, ah, Nat.reduceEqDiff, reduceIte]; exact cG Tryz.a46 Tryz.s46 (S.lds (b := b6) (o := 0) (n := 3) m0 (lbt rfl)))).2 (ik.2 ?_)
       have wq7 := (((gh.fr (M := NoM)).trans Sp.fr (fun c hc => .inr (bq c (.inr hc)))).trans S.fr (fun c hc => .inr (bq c (kp c hc)))).gr
       refine ⟨wq7, _, hE _ (.hit hpop), vA, vE', rfl, gR.of_get (fun c hc => mo.get c (gR.lt fR.ok hc) ?_), (S.gown _ m0).1, fun c hc => ⟨by have := hcA c hc; have := wq.n; omega, kA c hc⟩, fun c hc => ?_⟩
       · obtain ⟨a', n', e', _⟩ : ∃ a' n', vA = Value.slice (some ⟨a', 0, some 1⟩) n' n' ∧ a' = c := by
          rcases gR with ⟨e, _⟩ | ⟨b', n', e, _⟩
          · simp only [] at e; rw [e] at hc; cases hc
          · simp only [] at e; rw [e] at hc; cases hc; exact ⟨_, _, e, rfl⟩
         exact b6A c (by rw [e']; assumption)
       · exact bq c (((S.gown _ m0).2 c (jU (S.gown _ m0).1 hc)).elim (fun h => .inl (Nat.le_trans np h)) (fun h => kp c h))
     · have hv' : ¬ ((v : Int) = (to : Int)) := by omega
       simp only [BS, LB, Nat.reduceLT, Nat.reduceEqDiff, Nat.reduceAdd, r0, r2, hv']
       obtain ⟨sn1, sn2⟩ := sv.next hA hk
       refine step_ret (sscan_ok okq wq hγ hn Rc hBcq hal hpi hp ov svc (sv.room v) (by show (σ.ev ++ [_]).length ≤ 10000; simp; omega)) ?_
       rintro rv h4 ⟨f4, B4, R4, hB4⟩
       simp only [BS]
       have es := qK γ.arcs al pi v (cm σ v)
       have eO : (kx γ.arcs al pi v (cm σ v)).O = σ.O ++ [v] := sn2.O
       have ec : (cm σ v).ev.length = σ.ev.length + 1 := by show (σ.ev ++ [_]).length = _; simp
       have snl := sn1.len
       rw [eO] at snl
       simp at snl
       refine ih _ _ _ (by rw [eO]; simp; omega) ⟨B4, ?_, ?_, R4, ?_, sn1, by rw [eO]; simp; omega, fun r hr => hE r (.step hpop hv hr), by simp [ac, r0, ah], by simp [ac, r1], by simp [ac, r2], by simp [ac, r6, ah]⟩
       · exact ((f.trans Sp.fr (fun c hc => bo c (.inr hc))).trans S.fr (fun c hc => bo c (kp c hc))).trans f4 (fun c hc => bo c ((hBc c hc).imp (fun h => h) .inl))
       · exact f4.has (o := .row _ 1) (S.row m0) (fun hm => (hBc b6 hm).elim (fun h => by have := f.n; omega) b6B)
       · exact fun c hc => (hB4 c hc).elim (fun h => (hBc c h).elim (fun h => .inr (Nat.le_trans f.n h)) (hB c)) (fun h => .inr (by have := f.n; omega))
 · have k0 : (iB pi s).ev.length = 0 := by unfold iB; rw [ns]; rfl
   exact ⟨B1, f1.mono (fun c hc => .inl hc), f1.has (o := .row _ 1) row6 n6, R1, hB1, sv_init hs, by omega, fun r hr => hr, by simp [ac, bN, ah], by simp [ac, bN, eU], by simp [ac, bN, eU], by simp [ac, ah]⟩
end Go.Ab

end
section
namespace Go.Ab
open Go.Proofs
set_option maxRecDepth 10000
open Tryz in
def Tryz.FFs6112 := aj a1 <| aj s1 <| aj z1 <| aj n1 <| aj u2 <| aj a2 <| aj s2 <| aj z2 <| aj i2 <| aj u3 <| aj a3 <| aj s3 <| aj z3 <| aj i3 <| aj u4 <| aj a4 <| aj s4 <| aj z4 <| aj n4 <| aj u25 <| aj a25 <| aj s25 <| aj z25 <| aj q25 <| aj n25 <| aj u38 <| aj a38 <| aj s38 <| aj z38 <| aj q38 <| aj n38 <| aj a40 <| aj s40 <| aj z40 <| aj i40 <| aj n40 <| aj p40 <| aj ff40 <| d40
open Tryz in
def Tryz.FFs6113 := aj a1 <| aj s1 <| aj z1 <| aj n1 <| aj u2 <| aj a2 <| aj s2 <| aj z2 <| aj i2 <| aj u3 <| aj a3 <| aj s3 <| aj z3 <| aj i3 <| aj u4 <| aj a4 <| aj s4 <| aj z4 <| aj n4 <| aj u25 <| aj a25 <| aj s25 <| aj z25 <| aj q25 <| aj n25 <| aj u38 <| aj a38 <| aj s38 <| aj z38 <| aj q38 <| aj n38 <| aj a40 <| aj s40 <| aj z40 <| aj i40 <| aj n40 <| aj p40 <| aj ff40 <| d40
open Tryz in
def Tryz.FFs656 := aj a1 <| aj s1 <| aj z1 <| aj n1 <| aj u2 <| aj a2 <| aj s2 <| aj z2 <| aj i2 <| aj u3 <| aj a3 <| aj s3 <| aj z3 <| aj i3 <| aj u4 <| aj a4 <| aj s4 <| aj z4 <| aj n4 <| aj u5 <| aj a5 <| aj s5 <| aj z5 <| aj i5 <| aj u6 <| aj a6 <| aj s6 <| aj z6 <| aj i6 <| aj u25 <| aj a25 <| aj s25 <| aj z25 <| aj q25 <| aj n25 <| aj a31 <| aj s31 <| aj z31 <| aj i31 <| aj n31 <| aj p31 <| aj ff31 <| aj d31 <| aj u33 <| aj a33 <| aj s33 <| aj z33 <| aj q33 <| aj i33 <| aj n33 <| aj u38 <| aj a38 <| aj s38 <| aj z38 <| aj q38 <| aj n38 <| aj a40 <| aj s40 <| aj z40 <| aj i40 <| aj n40 <| aj p40 <| aj ff40 <| aj d40 <| aj u43 <| aj a43 <| aj s43 <| aj z43 <| aj q43 <| aj n43 <| aj u44 <| aj a44 <| aj s44 <| aj z44 <| aj q44 <| aj n44 <| aj a51 <| aj s51 <| aj z51 <| aj i51 <| aj n51 <| aj p51 <| aj ff51 <| aj d51 <| aj a111 <| aj s111 <| aj z111 <| aj n111 <| aj u114 <| aj a114 <| aj s114 <| aj z114 <| aj q114 <| aj i114 <| aj n114 <| aj u163 <| aj a163 <| aj s163 <| aj z163 <| aj q163 <| aj n163 <| aj a165 <| aj s165 <| aj z165 <| aj i165 <| aj n165 <| aj p165 <| aj ff165 <| aj d165 <| aj u178 <| aj a178 <| aj s178 <| aj z178 <| aj q178 <| aj i178 <| aj n178 <| aj a180 <| aj s180 <| aj z180 <| aj n180 <| aj a182 <| aj s182 <| aj z182 <| aj i182 <| aj n182 <| aj p182 <| aj ff182 <| aj d182 <| aj a237 <| aj s237 <| aj z237 <| aj i237 <| aj n237 <| aj p237 <| aj ff237 <| aj d237 <| aj a239 <| aj s239 <| aj z239 <| aj i239 <| aj n239 <| aj p239 <| aj ff239 <| d239
open Tryz in
def Tryz.FFs653 := aj a1 <| aj s1 <| aj z1 <| aj n1 <| aj u3 <| aj a3 <| aj s3 <| aj z3 <| aj i3 <| aj u4 <| aj a4 <| aj s4 <| aj z4 <| aj n4 <| aj u38 <| aj a38 <| aj s38 <| aj z38 <| aj q38 <| n38
open Tryz in
def Tryz.FFs655 := aj a1 <| aj s1 <| aj z1 <| aj n1 <| aj u2 <| aj a2 <| aj s2 <| aj z2 <| aj i2 <| aj u3 <| aj a3 <| aj s3 <| aj z3 <| aj i3 <| aj u4 <| aj a4 <| aj s4 <| aj z4 <| aj n4 <| aj u25 <| aj a25 <| aj s25 <| aj z25 <| aj q25 <| n25
open Tryz in
def Tryz.FFs654 := aj a1 <| aj s1 <| aj z1 <| aj n1 <| aj u2 <| aj a2 <| aj s2 <| aj z2 <| aj i2 <| aj u3 <| aj a3 <| aj s3 <| aj z3 <| aj i3 <| aj u4 <| aj a4 <| aj s4 <| aj z4 <| aj n4 <| aj u25 <| aj a25 <| aj s25 <| aj z25 <| aj q25 <| aj n25 <| aj u29 <| aj a29 <| aj s29 <| aj z29 <| aj q29 <| aj n29 <| aj a31 <| aj s31 <| aj z31 <| aj i31 <| aj n31 <| aj p31 <| aj ff31 <| aj d31 <| aj u33 <| aj a33 <| aj s33 <| aj z33 <| aj q33 <| aj i33 <| aj n33 <| aj u43 <| aj a43 <| aj s43 <| aj z43 <| aj q43 <| aj n43 <| aj a56 <| aj s56 <| aj z56 <| aj i56 <| aj n56 <| aj p56 <| aj ff56 <| aj d56 <| aj u163 <| aj a163 <| aj s163 <| aj z163 <| aj q163 <| aj n163 <| aj a165 <| aj s165 <| aj z165 <| aj i165 <| aj n165 <| aj p165 <| aj ff165 <| d165
open Tryz in
def Tryz.FFs652 := aj a1 <| aj s1 <| aj z1 <| aj n1 <| aj u3 <| aj a3 <| aj s3 <| aj z3 <| aj i3 <| aj u4 <| aj a4 <| aj s4 <| aj z4 <| aj n4 <| aj a31 <| aj s31 <| aj z31 <| aj i31 <| aj n31 <| aj p31 <| aj ff31 <| aj d31 <| aj u33 <| aj a33 <| aj s33 <| aj z33 <| aj q33 <| aj i33 <| aj n33 <| aj u163 <| aj a163 <| aj s163 <| aj z163 <| aj q163 <| aj n163 <| aj a165 <| aj s165 <| aj z165 <| aj i165 <| aj n165 <| aj p165 <| aj ff165 <| d165
open Tryz in
def Tryz.FFs614 := aj a1 <| aj s1 <| aj z1 <| aj n1 <| aj u2 <| aj a2 <| aj s2 <| aj z2 <| aj i2 <| aj u3 <| aj a3 <| aj s3 <| aj z3 <| aj i3 <| aj u4 <| aj a4 <| aj s4 <| aj z4 <| aj n4 <| aj u5 <| aj a5 <| aj s5 <| aj z5 <| aj i5 <| aj u6 <| aj a6 <| aj s6 <| aj z6 <| aj i6 <| aj a7 <| aj s7 <| aj z7 <| aj i7 <| aj n7 <| aj p7 <| aj ff7 <| aj d7 <| aj a8 <| aj s8 <| aj z8 <| aj i8 <| aj n8 <| aj p8 <| aj ff8 <| aj d8 <| aj u25 <| aj a25 <| aj s25 <| aj z25 <| aj q25 <| aj n25 <| aj a31 <| aj s31 <| aj z31 <| aj i31 <| aj n31 <| aj p31 <| aj ff31 <| aj d31 <| aj u33 <| aj a33 <| aj s33 <| aj z33 <| aj q33 <| aj i33 <| aj n33 <| aj u38 <| aj a38 <| aj s38 <| aj z38 <| aj q38 <| aj n38 <| aj a40 <| aj s40 <| aj z40 <| aj i40 <| aj n40 <| aj p40 <| aj ff40 <| aj d40 <| aj u43 <| aj a43 <| aj s43 <| aj z43 <| aj q43 <| aj n43 <| aj u44 <| aj a44 <| aj s44 <| aj z44 <| aj q44 <| aj n44 <| aj a46 <| aj s46 <| aj z46 <| aj i46 <| aj n46 <| aj p46 <| aj ff46 <| aj d46 <| aj u47 <| aj a47 <| aj s47 <| aj z47 <| aj i47 <| aj a51 <| aj s51 <| aj z51 <| aj i51 <| aj n51 <| aj p51 <| aj ff51 <| aj d51 <| aj a111 <| aj s111 <| aj z111 <| aj n111 <| aj u114 <| aj a114 <| aj s114 <| aj z114 <| aj q114 <| aj i114 <| aj n114 <| aj u163 <| aj a163 <| aj s163 <| aj z163 <| aj q163 <| aj n163 <| aj a165 <| aj s165 <| aj z165 <| aj i165 <| aj n165 <| aj p165 <| aj ff165 <| aj d165 <| aj u178 <| aj a178 <| aj s178 <| aj z178 <| aj q178 <| aj i178 <| aj n178 <| aj a180 <| aj s180 <| aj z180 <| aj n180 <| aj a182 <| aj s182 <| aj z182 <| aj i182 <| aj n182 <| aj p182 <| aj ff182 <| d182
def alF (als : List Bool) (a : Nat) : Bool := als.isEmpty || als.getD a false
def piF (pis : List Int) (v : Nat) : Int := if pis = [] then 0 else max (-72057594037927936) (pis.getD v 0)
theorem piF_lo (pis : List Int) (v : Nat) : -(FAR : Int) ≤ piF pis v := by
 have := jO
 unfold piF
 split <;> omega
theorem al_ok {hq : Hp} {ba n : Nat} {vAl : Value} {als : List Bool} (l2 : hq.load ba 2 1 = some [vAl]) (sl : aG hq 1 jz vAl als) (hl : als = [] ∨ als.length = n) : AlF Tryz.abEnv hq 112 ba n (alF als) := by
 intro h g a ha
 have S := St.init (M := NoM) g.ok
 have q2 := g.load l2
 have sl2 := sl.gr g
 rcases hl with rfl | hl
 · refine aq (n := 15) (rs := [.tmp 3]) rfl Tryz.e112 rfl rfl rfl (lbt rfl) ?_
   simp only [BS, LB, an, Nat.reduceLT, Nat.reduceEqDiff, Int.cast_ofNat_Int, Tryz.FFs6112, q2, sl2.lenq]
   exact ⟨rfl, S.gr⟩
 · have c0 : ¬ ((als.length : Int) = 0) := by omega
   have ha' : a < als.length := by omega
   obtain ⟨c, o, hidx, hld⟩ := sl2.ix (kd := .i64) ja ha'
   have e : alF als a = als[a] := by
    unfold alF
    cases als with
    | nil => simp at ha'
    | cons b l =>
      show (false || (b :: l).getD a false) = _
      rw [List.getD_eq_getElem?_getD, List.getElem?_eq_getElem ha']; rfl
   rw [e]
   refine aq (n := 15) (rs := [.tmp 3]) rfl Tryz.e112 rfl rfl rfl (lbt rfl) ?_
   simp only [BS, LB, an, Nat.reduceLT, Nat.reduceEqDiff, Tryz.FFs6112, q2, sl2.lenq, c0, hidx, hld, jz]
   exact S.gr
theorem pi_ok {hq : Hp} {ba n : Nat} {vPi : Value} {pis : List Int} (l2 : hq.load ba 3 1 = some [vPi]) (sl : aG hq 1 (encI .i64) vPi pis) (hl : pis = [] ∨ pis.length = n) : PiF Tryz.abEnv hq 113 ba n (piF pis) := by
 intro h g a ha
 have S := St.init (M := NoM) g.ok
 have q2 := g.load l2
 have sl2 := sl.gr g
 rcases hl with rfl | hl
 · refine aq (n := 14) (rs := [.tmp 3]) rfl Tryz.e113 rfl rfl rfl (lbt rfl) ?_
   simp only [BS, LB, an, Nat.reduceLT, Nat.reduceEqDiff, Int.cast_ofNat_Int, Tryz.FFs6113, q2, sl2.lenq]
   exact ⟨rfl, S.gr⟩
 · have c0 : ¬ ((pis.length : Int) = 0) := by omega
   have ha' : a < pis.length := by omega
   obtain ⟨c, o, hidx, hld⟩ := sl2.ix (kd := .i64) (dH .i64) ha'
   have e : piF pis a = max (-72057594037927936) pis[a] := by
    unfold piF
    rw [if_neg (by intro e; subst e; simp at ha')]
    simp [List.getD_eq_getElem?_getD, ha']
   rw [e]
   refine aq (n := 14) (rs := [.tmp 3]) rfl Tryz.e113 rfl rfl rfl (lbt rfl) ?_
   simp only [BS, LB, an, Nat.reduceLT, Nat.reduceEqDiff, Tryz.FFs6113, q2, sl2.lenq, c0, hidx, hld, encI]
   exact S.gr
theorem sstart_ok {h0 : Hp} (ok : h0.t.Sized h0.n) {γ : Gra} (hγ : Good γ) {nb bp : Nat} (hn : dD h0 nb (ptrTo bp) γ) {s to : Int} {vAl vPi : Value} (fA : Fl vAl) (fP : Fl vPi) :
 Ret Tryz.abEnv 56 [ptrTo bp, .agg ⟨[.int .i64 s, .int .i64 to, vAl, vPi]⟩] h0 fun r h' => ∃ br ba hq B, r = ptrTo br ∧ Gr h0 hq ∧ Gr hq h' ∧ hq.load ba 2 1 = some [vAl] ∧ hq.load ba 3 1 = some [vPi] ∧ dT h' B br (ptrTo bp) (.func (.func 112) #[] #[ptrTo ba]) (.func (.func 113) #[] #[ptrTo ba]) γ.nodes zS ∧ ∀ c ∈ B, hq.n ≤ c := by
 have n1 := hγ.n1
 have n2 := hγ.n2
 have S := St.init (M := NoM) ok
 refine aq (n := 34) (rs := [.tmp 4]) rfl Tryz.e56 rfl rfl rfl (lbt rfl) ?_
 simp only [BS, Nat.reduceLT]
 refine ao (bn (by intro x e; cases e)) S ?_; clear S; intro h ba S n_ba; simp only [ae] at S
 have gq := S.gr
 have l2 := S.ld (b := ba) (o := 2) m0 rfl
 have l3 := S.ld (b := ba) (o := 3) m0 rfl
 clear S
 rename Hp => hq
 replace hn := hn.gr gq
 have S := St.init (M := NoM) gq.ok
 simp only [BS]
 refine az (aD rfl) (q := 2880) (ps := []) (by kernel_rfl) ?_
 simp only [BS, LB, cls, Nat.reduceLT, Nat.reduceEqDiff, Nat.reduceAdd, Nat.reducePow, Nat.reduceDiv, Nat.reduceMod, Nat.reduceLeDiff]
 refine fg (fM S.ok (hn.gr S.gr)) ?_; intro h g; replace S := S.call g; clear g
 simp only [BS, LB, cls, Nat.reduceLT, Nat.reduceEqDiff, Nat.reduceAdd, Nat.reducePow, Nat.reduceDiv, Nat.reduceMod, Nat.reduceLeDiff]
 refine di (uc S.ok) ?_; rintro rp h ⟨g, F, H, hF⟩
 have k0 := S.fr.n
 replace S := S.call g; clear g
 have pp : ∃ b, rp = ptrTo b := by obtain ⟨b, _, _, e, _⟩ := H.ex; exact ⟨b, e⟩
 obtain ⟨ph, rfl⟩ := pp
 have S0 := S
 have lF := H.lt S0.ok
 rename Hp => h_H
 replace S := S.base
 simp only [BS, LB, cls, Nat.reduceLT, Nat.reduceEqDiff, Nat.reduceAdd, Nat.reducePow, Nat.reduceDiv, Nat.reduceMod, Nat.reduceLeDiff]
 refine fg (fM S.ok (hn.gr (S0.rebase S).gr)) ?_; intro h g; replace S := S.call g; clear g
 simp only [BS, LB, cls, Nat.reduceLT, Nat.reduceEqDiff, Nat.reduceAdd, Nat.reducePow, Nat.reduceDiv, Nat.reduceMod, Nat.reduceLeDiff]
 refine bM (kQ (by first | exact Tryz.u25 | exact Tryz.u38 | exact Tryz.u43 | exact Tryz.u44 | exact Tryz.u163) (by first | exact Tryz.e2E | exact Tryz.e3E | exact Tryz.e4E | exact Tryz.e43E | exact Tryz.e51E) (by omega) (by omega)) S ?_; clear S; intro h bl S n_bl e_bl
 simp only [BS, LB, cls, Nat.reduceLT, Nat.reduceEqDiff, Nat.reduceAdd, Nat.reducePow, Nat.reduceDiv, Nat.reduceMod, Nat.reduceLeDiff, Int.toNat_natCast]
 refine pD (fM (h0 := { h with lo := h.n }) S.ok ((hn.gr (S0.rebase S).gr).keep S.ok (fun _ _ => rfl))) ?_; intro h g; replace S := S.call g; clear g
 simp only [BS, LB, cls, Nat.reduceLT, Nat.reduceEqDiff, Nat.reduceAdd, Nat.reducePow, Nat.reduceDiv, Nat.reduceMod, Nat.reduceLeDiff]
 refine bM (kQ (by first | exact Tryz.u25 | exact Tryz.u38 | exact Tryz.u43 | exact Tryz.u44 | exact Tryz.u163) (by first | exact Tryz.e2E | exact Tryz.e3E | exact Tryz.e4E | exact Tryz.e43E | exact Tryz.e51E) (by omega) (by omega)) S ?_; clear S; intro h bk S n_bk e_bk
 simp only [BS, LB, cls, Nat.reduceLT, Nat.reduceEqDiff, Nat.reduceAdd, Nat.reducePow, Nat.reduceDiv, Nat.reduceMod, Nat.reduceLeDiff, Tryz.FFs656, Int.toNat_natCast]
 refine bM (bn (by intro x e; cases e)) S ?_; clear S; intro h br S n_br e_br; simp only [ae] at S
 simp only [BS, LB, cls, Nat.reduceLT, Nat.reduceEqDiff, Nat.reduceAdd, Nat.reducePow, Nat.reduceDiv, Nat.reduceMod, Nat.reduceLeDiff]
 refine ao (bu (by first | exact Tryz.u25 | exact Tryz.u38 | exact Tryz.u43 | exact Tryz.u44 | exact Tryz.u163) (by first | exact Tryz.e2E | exact Tryz.e3E | exact Tryz.e4E | exact Tryz.e43E | exact Tryz.e51E) (by decide) (by first | rfl | exact fillE )) S ?_; clear S; intro h bs S n_bs; simp only [aO, aT, ae, List.cons_append, List.nil_append, List.append_nil, List.set_cons_zero, List.set_cons_succ, Nat.reduceMul, Nat.reduceAdd, Nat.zero_mul, Nat.zero_add, Nat.mul_one, Nat.one_mul] at S
 simp only [BS, LB, Nat.reduceLT, Nat.reduceEqDiff]
 refine bH (fM S.ok (hn.gr (S0.rebase S).gr)) ?_; intro h g; replace S := S.call g; clear g
 simp only [BS, LB, Nat.reduceLT, Nat.reduceEqDiff]
 have kl := fun {c} (hc : c ∈ _) => S.key_lt (b := c) hc
 have kn := S.fr.n
 refine step_ret (repI_ok S.ok (x := -1) (.inr ⟨bs, 0, none, 1, rfl, Nat.le_refl _, S.lds (b := bs) (o := 0) (n := 1 * 1) m0 (lbt rfl)⟩) n1 (by omega)) ?_; intro v h ⟨g, bb, eb, nb', Rb⟩; replace S := S.call g; clear g
 subst eb
 replace S := S.drop1
 replace S := S.push (b := bb) (o := .row _ 1) (.inl (Nat.le_trans kn nb')) Rb (fun hm => by have := kl (List.mem_cons_of_mem _ hm); omega)
 simp only [BS, LB, Nat.reduceLT, Nat.reduceEqDiff, Tryz.FFs656]
 first | refine aa (ab S (i := 0) rfl ?_ ?_ ?_ ono) ?_ | refine aa (ab S (i := 1) rfl ?_ ?_ ?_ ono) ?_ | refine aa (ab S (i := 2) rfl ?_ ?_ ?_ ono) ?_ | refine aa (ab S (i := 3) rfl ?_ ?_ ?_ ono) ?_ | refine aa (ab S (i := 4) rfl ?_ ?_ ?_ ono) ?_ | refine aa (ab S (i := 5) rfl ?_ ?_ ?_ ono) ?_ | refine aa (ab S (i := 6) rfl ?_ ?_ ?_ ono) ?_ | refine aa (ab S (i := 7) rfl ?_ ?_ ?_ ono) ?_
 · exact (by simp only [Tryz.FFs656])
 · exact (by first | exact aF | exact aM | exact bL | exact aX | exact bK | exact bj | exact bg | exact aR | exact aZ | exact bJ | assumption)
 · exact Nat.lt_of_succ_le (lbt rfl)
 clear S; rintro h ⟨S, mo⟩; clear mo; simp only [List.set_cons_zero, List.set_cons_succ, ae, lay, List.take, List.drop, List.nil_append, List.cons_append, List.append_nil, List.length_cons, List.length_nil, Nat.reduceAdd, Nat.add_zero] at S
 simp only [BS, LB, Nat.reduceLT, Nat.reduceEqDiff, Tryz.FFs656]
 first | refine aa (ab S (i := 0) rfl ?_ ?_ ?_ ono) ?_ | refine aa (ab S (i := 1) rfl ?_ ?_ ?_ ono) ?_ | refine aa (ab S (i := 2) rfl ?_ ?_ ?_ ono) ?_ | refine aa (ab S (i := 3) rfl ?_ ?_ ?_ ono) ?_ | refine aa (ab S (i := 4) rfl ?_ ?_ ?_ ono) ?_ | refine aa (ab S (i := 5) rfl ?_ ?_ ?_ ono) ?_ | refine aa (ab S (i := 6) rfl ?_ ?_ ?_ ono) ?_ | refine aa (ab S (i := 7) rfl ?_ ?_ ?_ ono) ?_
 · exact (by simp only [Tryz.FFs656])
 · exact (by first | exact aF | exact aM | exact bL | exact aX | exact bK | exact bj | exact bg | exact aR | exact aZ | exact bJ | assumption)
 · exact Nat.lt_of_succ_le (lbt rfl)
 clear S; rintro h ⟨S, mo⟩; clear mo; simp only [List.set_cons_zero, List.set_cons_succ, ae, lay, List.take, List.drop, List.nil_append, List.cons_append, List.append_nil, List.length_cons, List.length_nil, Nat.reduceAdd, Nat.add_zero] at S
 simp only [BS, LB, Nat.reduceLT, Nat.reduceEqDiff, Tryz.FFs656]
 first | refine aa (ab S (i := 0) rfl ?_ ?_ ?_ ono) ?_ | refine aa (ab S (i := 1) rfl ?_ ?_ ?_ ono) ?_ | refine aa (ab S (i := 2) rfl ?_ ?_ ?_ ono) ?_ | refine aa (ab S (i := 3) rfl ?_ ?_ ?_ ono) ?_ | refine aa (ab S (i := 4) rfl ?_ ?_ ?_ ono) ?_ | refine aa (ab S (i := 5) rfl ?_ ?_ ?_ ono) ?_ | refine aa (ab S (i := 6) rfl ?_ ?_ ?_ ono) ?_ | refine aa (ab S (i := 7) rfl ?_ ?_ ?_ ono) ?_
 · exact (by simp only [Tryz.FFs656])
 · exact (by first | exact aF | exact aM | exact bL | exact aX | exact bK | exact bj | exact bg | exact aR | exact aZ | exact bJ | assumption)
 · exact Nat.lt_of_succ_le (lbt rfl)
 clear S; rintro h ⟨S, mo⟩; clear mo; simp only [List.set_cons_zero, List.set_cons_succ, ae, lay, List.take, List.drop, List.nil_append, List.cons_append, List.append_nil, List.length_cons, List.length_nil, Nat.reduceAdd, Nat.add_zero] at S
 simp only [BS, LB, an, Nat.reduceLT, Nat.reduceEqDiff]
 have e1 : aO [Value.int .i64 0] ((γ.nodes : Int)).toNat = labC γ.nodes zS.L := by rw [kM]; rfl
 have e2 : aO [Value.bool false] ((γ.nodes : Int)).toNat = clC γ.nodes zS.O := by
  rw [kM]; unfold clC zS
  exact List.map_congr_left fun v _ => by simp
 have e3 : List.replicate γ.nodes (Value.int .i64 (-1)) = byC γ.nodes zS.P := by
  show _ = (List.range γ.nodes).map fun _ => Value.int .i64 (-1)
  rw [List.map_const', List.length_range]
 rw [e1, e2, e3] at S
 have ap := S.apart
 have kl := fun {c} hc => S.key_own (b := c) hc
 have n0 := S0.fr.n
 have hK : ∀ c ∈ keys (srL br bl bb bk γ.nodes (ptrTo bp) (ptrTo ph) (.func (.func 112) #[] #[ptrTo ba]) (.func (.func 113) #[] #[ptrTo ba]) (.slice none 0 0) zS) (srG (.slice none 0 0) zS), h_H.n ≤ c := fun c hc => by
  have : c = bb ∨ c = br ∨ c = bk ∨ c = bl := by simp [srL, srG, keys, dK] at hc; omega
  rcases kl (c := c) (by simp [keys]; omega) with h | h
  · exact h
  · simp [keys] at h
 refine ⟨br, ba, hq, _, rfl, gq, (S0.rebase S).gr, l2, l3, ⟨bl, bb, bk, ph, F, .slice none 0 0, rfl, fun q hq => ?_, .inl ⟨rfl, rfl⟩, ?_, H.mo S.fr (fun c _ h => by simp [keys] at h), fun c hc hm => ?_⟩, fun c hc => ?_⟩
 · simp only [srL, List.mem_cons, List.not_mem_nil, or_false] at hq
   rcases hq with rfl | rfl | rfl | rfl
   · exact S.row m1
   · exact S.row m3
   · exact S.row m0
   · exact S.row m2
 · simp [srL, srG, keys, dK] at ap ⊢
   exact ⟨by omega, by omega, by omega, .nil⟩
 · have := lF c hc
   have := hK c hm
   omega
 · rcases List.mem_append.1 hc with hc | hc
   · exact Nat.le_trans n0 (hK c hc)
   · exact Nat.le_trans k0 (hF c hc)
theorem fitsB_ok {h0 : Hp} (ok : h0.t.Sized h0.n) {v : Value} {xs : List Bool} (hv : aG h0 1 jz v xs) {n : Nat} (hl : xs = [] ∨ xs.length = n) : dl Tryz.abEnv 53 [v, .int .i64 n] h0 (.bool true) := by
 have S := St.init (M := NoM) ok
 by_cases c0 : (xs.length : Int) = 0
 · refine aq (n := 14) (rs := [.tmp 4]) rfl Tryz.e53 rfl rfl rfl (lbt rfl) ?_
   simp only [BS, LB, an, Nat.reduceLT, Nat.reduceEqDiff, Tryz.FFs653, hv.lenq, c0]
   exact S.gr
 · have c1 : (xs.length : Int) = (n : Int) := by
    rcases hl with rfl | h
    · simp at c0
    · omega
   rw [c1] at c0
   refine aq (n := 14) (rs := [.tmp 4]) rfl Tryz.e53 rfl rfl rfl (lbt rfl) ?_
   simp only [BS, LB, an, Nat.reduceLT, Nat.reduceEqDiff, Tryz.FFs653, hv.lenq, c0, c1]
   exact S.gr
theorem fitsI_ok {h0 : Hp} (ok : h0.t.Sized h0.n) {v : Value} {xs : List Int} (hv : aG h0 1 (encI .i64) v xs) {n : Nat} (hl : xs = [] ∨ xs.length = n) : dl Tryz.abEnv 55 [v, .int .i64 n] h0 (.bool true) := by
 have S := St.init (M := NoM) ok
 by_cases c0 : (xs.length : Int) = 0
 · refine aq (n := 14) (rs := [.tmp 4]) rfl Tryz.e55 rfl rfl rfl (lbt rfl) ?_
   simp only [BS, LB, an, Nat.reduceLT, Nat.reduceEqDiff, Tryz.FFs655, hv.lenq, c0]
   exact S.gr
 · have c1 : (xs.length : Int) = (n : Int) := by
    rcases hl with rfl | h
    · simp at c0
    · omega
   rw [c1] at c0
   refine aq (n := 14) (rs := [.tmp 4]) rfl Tryz.e55 rfl rfl rfl (lbt rfl) ?_
   simp only [BS, LB, an, Nat.reduceLT, Nat.reduceEqDiff, Tryz.FFs655, hv.lenq, c0, c1]
   exact S.gr
theorem sG {h0 : Hp} (ok : h0.t.Sized h0.n) {p : Value} {γ : Gra} {nb : Nat} (c : dD h0 nb p γ) : dl Tryz.abEnv 54 [p] h0 (.int .i64 γ.arcs.length) := by
 have S := St.init (M := NoM) ok
 obtain ⟨b, vx, vy, va, vo, vi, rfl, r, ga, _⟩ := c.ex
 have l0 := r.load1 (o := 3) rfl
 refine aq (n := 11) (rs := [.tmp 2]) rfl Tryz.e54 rfl rfl rfl (lbt rfl) ?_
 simp only [BS, LB, an, Nat.reduceLT, Nat.reduceEqDiff, Tryz.FFs654, l0, ga.A.lenq]
 exact S.gr
theorem o9 {h0 : Hp} (ok : h0.t.Sized h0.n) {bp b2 : Nat} {γ : Gra} {nb : Nat} (c : dD h0 nb (ptrTo bp) γ) (l : h0.load b2 0 1 = some [ptrTo bp]) {v : Nat} (hv : v < γ.nodes) : dl Tryz.abEnv 52 [.int .i64 (v : Nat), ptrTo b2] h0 (.bool true) := by
 have S := St.init (M := NoM) ok
 have c1 : (0 : Int) ≤ (v : Int) := by omega
 refine aq (n := 12) (rs := [.tmp 3]) rfl Tryz.e52 rfl rfl rfl (lbt rfl) ?_
 simp only [BS, LB, Nat.reduceLT, Nat.reduceEqDiff, Tryz.FFs652, l, c1]
 refine bH (fM S.ok (c.gr S.gr)) ?_; intro h g; replace S := S.call g; clear g
 simp only [BS, LB, an, Nat.reduceLT, Nat.reduceEqDiff, aL, hv]
 exact S.gr
theorem oe {h0 : Hp} (ok : h0.t.Sized h0.n) {γ : Gra} (hγ : Good γ) {nb bp : Nat} (hn : dD h0 nb (ptrTo bp) γ) {s to : Nat} (hs : s < γ.nodes) (hto : to < γ.nodes) {vAl vPi : Value} {als : List Bool} {pis : List Int} (hA : aG h0 1 jz vAl als) (hAl : als = [] ∨ als.length = γ.arcs.length) (hP : aG h0 1 (encI .i64) vPi pis) (hPl : pis = [] ∨ pis.length = γ.nodes) :
 Ret Tryz.abEnv 14 [ptrTo bp, .agg ⟨[.int .i64 (s : Nat), .int .i64 (to : Nat), vAl, vPi]⟩] h0 fun r h' => Gr h0 h' ∧ ∃ v fd, r = .tuple #[v, .int .i64 0] ∧ FdAt h' h0.n v fd ∧ ((s = to ∧ fd = ⟨0, [], []⟩) ∨ (s ≠ to ∧ Ends γ.arcs (alF als) (piF pis) to (iB (piF pis) s) fd)) := by
 have S := St.init (M := NoM) ok
 have fA := hA.fl
 have fP := hP.fl
 refine aq (n := 57) (rs := [.cell 4 46, .tmp 5]) rfl Tryz.e14 rfl rfl rfl (lbt rfl) ?_
 simp only [BS, Nat.reduceLT]
 refine ao (jP (by first | exact aF | exact aM | exact bL | exact aX | exact bK | exact bj | exact bg | exact aR | exact aZ | exact bJ | assumption)) S ?_; clear S; intro h b2 S n_b2
 simp only [BS, Nat.reduceLT, Nat.reduceEqDiff, if_false]
 refine ao (bn (by intro x e; cases e)) S ?_; clear S; intro h b3 S n_b3; simp only [ae] at S
 simp only [BS, Tryz.FFs614]
 refine ao aH S ?_; clear S; intro h b4 S n_b4
 simp only [BS, LB, Nat.reduceLT, Nat.reduceEqDiff, Tryz.FFs614, S.ld (b := b2) (o := 0) (by repeat constructor) rfl]
 refine az (aD rfl) (q := 0) (ps := [(22, 24), (14, 16)]) (by kernel_rfl) ?_
 simp only [BS, LB, cls, Nat.reduceLT, Nat.reduceEqDiff, Nat.reduceAdd, Nat.reducePow, Nat.reduceDiv, Nat.reduceMod, Nat.reduceLeDiff, Tryz.FFs614, S.ld (b := b2) (o := 0) (by repeat constructor) rfl, S.ld (b := b3) (o := 0) (by repeat constructor) rfl]
 have p1 := (S.row (b := b2) m2).lt S.ok
 have q1 := (S.row (b := b3) m1).lt S.ok
 refine fg (o9 S.ok (hn.gr S.gr) (S.ld (b := b2) (o := 0) m2 rfl) hs) ?_; intro h g; have u1 := aY g p1; have v1 := aY g q1; replace S := S.call g; clear g
 simp only [BS, LB, cls, Nat.reduceLT, Nat.reduceEqDiff, Nat.reduceAdd, Nat.reducePow, Nat.reduceDiv, Nat.reduceMod, Nat.reduceLeDiff, Tryz.FFs614, S.ld (b := b2) (o := 0) (by repeat constructor) rfl, S.ld (b := b3) (o := 1) (by repeat constructor) rfl]
 have p2 := (S.row (b := b2) m2).lt S.ok
 have q2 := (S.row (b := b3) m1).lt S.ok
 refine fg (o9 S.ok (hn.gr S.gr) (S.ld (b := b2) (o := 0) m2 rfl) hto) ?_; intro h g; have u2 := aY g p2; have v2 := aY g q2; replace S := S.call g; clear g
 simp only [BS, LB, cls, Nat.reduceLT, Nat.reduceEqDiff, Nat.reduceAdd, Nat.reducePow, Nat.reduceDiv, Nat.reduceMod, Nat.reduceLeDiff, Tryz.FFs614, S.ld (b := b2) (o := 0) (by repeat constructor) rfl, S.ld (b := b3) (o := 2) (by repeat constructor) rfl]
 have p3 := (S.row (b := b2) m2).lt S.ok
 have q3 := (S.row (b := b3) m1).lt S.ok
 refine fg (sG S.ok (hn.gr S.gr)) ?_; intro h g; have u3 := aY g p3; have v3 := aY g q3; replace S := S.call g; clear g
 simp only [BS, LB, cls, Nat.reduceLT, Nat.reduceEqDiff, Nat.reduceAdd, Nat.reducePow, Nat.reduceDiv, Nat.reduceMod, Nat.reduceLeDiff]
 have p4 := (S.row (b := b2) m2).lt S.ok
 have q4 := (S.row (b := b3) m1).lt S.ok
 refine fg (fitsB_ok S.ok (hA.gr S.gr) hAl) ?_; intro h g; have u4 := aY g p4; have v4 := aY g q4; replace S := S.call g; clear g
 simp only [BS, LB, cls, Nat.reduceLT, Nat.reduceEqDiff, Nat.reduceAdd, Nat.reducePow, Nat.reduceDiv, Nat.reduceMod, Nat.reduceLeDiff, Tryz.FFs614, S.ld (b := b2) (o := 0) (by repeat constructor) rfl, S.ld (b := b3) (o := 3) (by repeat constructor) rfl]
 have p5 := (S.row (b := b2) m2).lt S.ok
 have q5 := (S.row (b := b3) m1).lt S.ok
 refine fg (fM S.ok (hn.gr S.gr)) ?_; intro h g; have u5 := aY g p5; have v5 := aY g q5; replace S := S.call g; clear g
 simp only [BS, LB, cls, Nat.reduceLT, Nat.reduceEqDiff, Nat.reduceAdd, Nat.reducePow, Nat.reduceDiv, Nat.reduceMod, Nat.reduceLeDiff]
 have p6 := (S.row (b := b2) m2).lt S.ok
 have q6 := (S.row (b := b3) m1).lt S.ok
 refine fg (fitsI_ok S.ok (hP.gr S.gr) hPl) ?_; intro h g; have u6 := aY g p6; have v6 := aY g q6; replace S := S.call g; clear g
 simp only [BS, LB, cls, Nat.reduceLT, Nat.reduceEqDiff, Nat.reduceAdd, Nat.reducePow, Nat.reduceDiv, Nat.reduceMod, Nat.reduceLeDiff, Tryz.FFs614]
 refine ⟨by simp only [cq, cC, bV, cK, cg, ne_eq, not_false_eq_true, cJ, da, cu, cj, dr, dW, bc, Nat.reduceLT, Nat.reduceEqDiff, reduceIte, Bool.and_true, ah, cV v3, cV v5], ?_⟩
 clear p1 p2 p3 p4 p5 p6 q1 q2 q3 q4 q5 q6 u1 u2 u3 u4 u5 u6 v1 v2 v3 v4 v5 v6
 by_cases hst : s = to
 · subst hst
   simp only [BS, LB, Nat.reduceLT, Nat.reduceEqDiff, Tryz.FFs614, S.ld (b := b3) (o := 0) (by repeat constructor) rfl, S.ld (b := b3) (o := 1) (by repeat constructor) rfl]
   refine aa (S.store (i := 0) rfl Tryz.s46 (by intro x e; cases e) rfl rfl (lbt rfl) ono) ?_
   clear S; rintro h3 ⟨S, mo⟩
   simp only [List.set_cons_zero, List.set_cons_succ, ae, lay, List.take, List.drop, List.nil_append, List.cons_append, List.append_nil, List.length_cons, List.length_nil, Nat.reduceAdd, Nat.add_zero] at S
   simp only [BS, an]
   refine (h9 (by decide) (by simp only [bc, ah, Nat.reduceEqDiff, reduceIte]; exact cG Tryz.a46 Tryz.s46 (S.lds (b := b4) (o := 0) (n := 3) m0 (lbt rfl)))).2 ?_
   refine (kU (by decide)).2 (ik.2 ?_)
   exact ⟨S.gr, _, ⟨0, [], []⟩, rfl, ⟨_, _, rfl, .inl ⟨rfl, rfl⟩, .inl ⟨rfl, rfl⟩, fun c hc => hc.elim, fun c hc => hc.elim⟩, .inl rfl⟩
 · have hst' : ¬ ((s : Int) = (to : Int)) := by omega
   simp only [BS, LB, Nat.reduceLT, Nat.reduceEqDiff, Tryz.FFs614, hst', S.ld (b := b3) (o := 0) (by repeat constructor) rfl, S.ld (b := b3) (o := 1) (by repeat constructor) rfl]
   refine az (aD rfl) (q := 0) (ps := [(2, 6), (2, 4)]) (by kernel_rfl) ?_
   simp only [BS, LB, cls, Nat.reduceLT, Nat.reduceEqDiff, Nat.reduceAdd, Nat.reducePow, Nat.reduceDiv, Nat.reduceMod, Nat.reduceLeDiff, Tryz.FFs614, List.drop_zero, List.take_succ_cons, List.take_zero, S.ld (b := b2) (o := 0) (by repeat constructor) rfl, S.lds (b := b3) (o := 0) (n := 4) (by repeat constructor) (lbt rfl)]
   have hnS := hn.gr S.gr
   have kS := S.fr.n
   have p3 := (S.row (b := b3) m1).lt S.ok
   refine di (sstart_ok S.ok hγ hnS fA fP) ?_
   rintro r h5 ⟨br, ba, hq, B, rfl, g1, g2, l2, l3, R, hB⟩
   have u1 := aY (g1.trans g2) p3
   have Aq := hA.gr (S.gr.trans g1)
   have Pq := hP.gr (S.gr.trans g1)
   have Sq := S.call g1
   have b4q := (Sq.row (b := b4) m0).lt Sq.ok
   replace S := S.call (g1.trans g2)
   simp only [BS, LB, cls, Nat.reduceLT, Nat.reduceEqDiff, Nat.reduceAdd, Nat.reducePow, Nat.reduceDiv, Nat.reduceMod, Nat.reduceLeDiff, Tryz.FFs614, S.ld (b := b3) (o := 0) (by repeat constructor) rfl, S.ld (b := b3) (o := 1) (by repeat constructor) rfl]
   have kq := g1.n
   have hnq := hnS.gr g1
   refine di (srun_ok g1.ok g2 hγ hnq R hB (al_ok l2 Aq hAl) (pi_ok l3 Pq hPl) (fun v _ => piF_lo pis v) hs hto) ?_
   rintro rv h6 ⟨g6, fd, he, vA, vE, rfl, G1, G2, d1, d2⟩
   replace S := Sq.call g6
   have f1 : Fl vA := G1.fl
   have f2 : Fl vE := G2.fl
   simp only [BS, LB, cls, Nat.reduceLT, Nat.reduceEqDiff, Nat.reduceAdd, Nat.reducePow, Nat.reduceDiv, Nat.reduceMod, Nat.reduceLeDiff]
   refine aJ (S.store (i := 0) rfl Tryz.s46 (by intro x e; cases e) rfl (by simp only [ae, List.all_cons, List.all_nil, f1.2.1, f2.2.1, Bool.and_true]; rfl) (lbt rfl) ono) ?_
   clear S; rintro h7 ⟨S, mo⟩
   simp only [List.set_cons_zero, List.set_cons_succ, ae, lay, List.take, List.drop, List.nil_append, List.cons_append, List.append_nil, List.length_cons, List.length_nil, Nat.reduceAdd, Nat.add_zero] at S
   simp only [BS, LB, cls, an, Nat.reduceEqDiff, Nat.reduceAdd, Nat.reducePow, Nat.reduceDiv, Nat.reduceMod, Nat.reduceLeDiff]
   refine ⟨by simp only [cq, cC, bV, cK, cg, ne_eq, not_false_eq_true, cJ, da, cu, cj, dr, dW, bc, Nat.reduceLT, Nat.reduceEqDiff, reduceIte, Bool.and_true, ah, fb u1], ?_⟩
   refine (h9 (by decide) (by simp only [bc, ah, Nat.reduceEqDiff, reduceIte]; exact cG Tryz.a46 Tryz.s46 (S.lds (b := b4) (o := 0) (n := 3) m0 (lbt rfl)))).2 ?_
   refine (kU (by decide)).2 (ik.2 ?_)
   have keep : ∀ {p : GL}, cF h6 p → (∀ c, av p.1 c → hq.n ≤ c) → cF h7 p := fun {p} G hc => G.of_get fun c hk => mo.get c (G.lt g6.ok hk) fun e => by
    have := hc c (by
     rcases G with ⟨e1, _⟩ | ⟨b', n', e1, _⟩
     · obtain ⟨v, k, vs⟩ := p
       simp only [] at e1
       subst e1
       cases hk
     · obtain ⟨v, k, vs⟩ := p
       simp only [] at e1
       subst e1
       cases hk
       rfl)
    omega
   exact ⟨S.gr, _, fd, rfl, ⟨vA, vE, rfl, keep G1 (fun c hc => (d1 c hc).1), keep G2 d2, fun c hc => ⟨Nat.le_trans kS (Nat.le_trans kq (d1 c hc).1), (d1 c hc).2⟩, fun c hc => Nat.le_trans kS (Nat.le_trans kq (d2 c hc))⟩, .inr ⟨hst, he⟩⟩
end Go.Ab

end
section
namespace Go.Ab
open Go.Proofs
set_option maxRecDepth 10000
open Tryz in
def Tryz.FFrl2169 := aj a1 <| aj s1 <| aj z1 <| aj n1 <| aj u2 <| aj a2 <| aj s2 <| aj z2 <| aj i2 <| aj u3 <| aj a3 <| aj s3 <| aj z3 <| aj i3 <| aj u25 <| aj a25 <| aj s25 <| aj z25 <| aj q25 <| aj n25 <| aj u29 <| aj a29 <| aj s29 <| aj z29 <| aj q29 <| aj n29 <| aj a31 <| aj s31 <| aj z31 <| aj i31 <| aj n31 <| aj p31 <| aj ff31 <| aj d31 <| aj a56 <| aj s56 <| aj z56 <| aj i56 <| aj n56 <| aj p56 <| aj ff56 <| d56
open Tryz in
def Tryz.FFrl2109 := aj a1 <| aj s1 <| aj z1 <| aj n1 <| aj u2 <| aj a2 <| aj s2 <| aj z2 <| aj i2 <| aj u3 <| aj a3 <| aj s3 <| aj z3 <| aj i3 <| aj u4 <| aj a4 <| aj s4 <| aj z4 <| aj n4 <| aj u5 <| aj a5 <| aj s5 <| aj z5 <| aj i5 <| aj u6 <| aj a6 <| aj s6 <| aj z6 <| aj i6 <| aj a7 <| aj s7 <| aj z7 <| aj i7 <| aj n7 <| aj p7 <| aj ff7 <| aj d7 <| aj u25 <| aj a25 <| aj s25 <| aj z25 <| aj q25 <| aj n25 <| aj u29 <| aj a29 <| aj s29 <| aj z29 <| aj q29 <| aj n29 <| aj a31 <| aj s31 <| aj z31 <| aj i31 <| aj n31 <| aj p31 <| aj ff31 <| aj d31 <| aj a56 <| aj s56 <| aj z56 <| aj i56 <| aj n56 <| aj p56 <| aj ff56 <| d56
theorem th {h0 : Hp} (ok : h0.t.Sized h0.n) {γ : Gra} (hγ : Good γ) {vx vy va : Value} (ga : bw h0 vx vy va γ) :
 Ret Tryz.abEnv 169 [bS γ vx vy va] h0 fun r h' => Gr h0 h' ∧ ∃ vx' vy' va', r = bS γ vx' vy' va' ∧ bw h' vx' vy' va' γ ∧ WrK h' 3 bI va' γ.arcs ∧ (∀ c, av vx' c ∨ av vy' c ∨ av va' c → h0.n ≤ c) ∧ ∀ c, av va' c → ¬ av vx' c ∧ ¬ av vy' c := by
 have S := St.init (M := NoM) ok
 have lX := hγ.lX
 have lY := hγ.lY
 have n2 := hγ.n2
 have many := hγ.many
 have fx := ga.X.fl
 have fy := ga.Y.fl
 have fa := ga.A.fl
 refine aq (n := 18) (rs := [.cell 2 31]) rfl Tryz.e169 rfl rfl rfl (lbt rfl) ?_
 simp only [BS, Nat.reduceLT, bS]
 refine ao (bn (by intro x e; cases e)) S ?_; clear S; intro h b S n_b; simp only [ae] at S
 simp only [BS, Tryz.FFrl2169]
 refine ao aH S ?_; clear S; intro h b2 S n_b2
 simp only [BS]
 refine az (aD rfl) (q := 1636) (ps := [(1, 13), (9, 12), (5, 12), (1, 9), (5, 8), (1, 5)]) (by kernel_rfl) ?_
 simp only [BS, LB, cls, Nat.reduceLT, Nat.reduceEqDiff, Nat.reduceAdd, Nat.reducePow, Nat.reduceDiv, Nat.reduceMod, Nat.reduceLeDiff, Tryz.FFrl2169, S.ld (b := b) (o := 0) (by repeat constructor) rfl, S.ld (b := b) (o := 1) (by repeat constructor) rfl]
 have z0 := fun c (hc : c ∈ keys _ _) => S.key_lt hc
 refine bM (bu (by first | exact Tryz.u25 | exact Tryz.u29) (by first | exact Tryz.e2E | exact Tryz.e56E) (by decide) (by first | rfl | exact fillE )) S ?_; clear S; intro h b5 S n_b5 e_b5; simp only [aO, aT, ae, List.cons_append, List.nil_append, List.append_nil, List.set_cons_zero, List.set_cons_succ, Nat.reduceMul, Nat.reduceAdd, Nat.zero_mul, Nat.zero_add, Nat.mul_one, Nat.one_mul] at S
 rw [← e_b5] at z0
 simp only [BS, LB, cls, Nat.reduceLT, Nat.reduceEqDiff, Nat.reduceAdd, Nat.reducePow, Nat.reduceDiv, Nat.reduceMod, Nat.reduceLeDiff, Tryz.FFrl2169, S.ld (b := b) (o := 0) (by repeat constructor) rfl, S.ld (b := b) (o := 1) (by repeat constructor) rfl]
 have l5 := (S.row (b := b5) m0).lt S.ok
 refine ly S (enc := encI .i64) Tryz.u25 Tryz.e2E (by decide) Tryz.n25 (ga.X.gr S.gr) (fun x => rfl) (by decide) (by omega) (S.row (b := b5) m0) ?_
 intro h v1 g s1 q1 _
 have p1 : ∀ c, av v1 c → b5 ≤ c := fun c hc => by have := q1 c hc; omega
 have gn5 := g.n
 replace S := (S.call g).drop1; clear g
 have u1 : ∀ c, av v1 c → c < h.n := fun c hc => s1.lt S.ok hc
 have Sb := S
 have i1 := S.fr.n
 replace S := S.base
 simp only [BS, LB, cls, Nat.reduceAdd, Nat.reducePow, Nat.reduceDiv, Nat.reduceMod, Nat.reduceLeDiff]
 refine bM (bu (by first | exact Tryz.u25 | exact Tryz.u29) (by first | exact Tryz.e2E | exact Tryz.e56E) (by decide) (by first | rfl | exact fillE )) S ?_; clear S; intro h b9 S n_b9 e_b9; simp only [aO, aT, ae, List.cons_append, List.nil_append, List.append_nil, List.set_cons_zero, List.set_cons_succ, Nat.reduceMul, Nat.reduceAdd, Nat.zero_mul, Nat.zero_add, Nat.mul_one, Nat.one_mul] at S
 rw [← e_b9] at u1
 replace s1 := s1.mo S.fr (fun c hc hk => by have := p1 c hc; have := z0 c hk; omega)
 replace S := Sb.rebase S
 clear Sb
 simp only [BS, LB, cls, Nat.reduceLT, Nat.reduceEqDiff, Nat.reduceAdd, Nat.reducePow, Nat.reduceDiv, Nat.reduceMod, Nat.reduceLeDiff, Tryz.FFrl2169, S.ld (b := b) (o := 2) (by repeat constructor) rfl]
 have l9 := (S.row (b := b9) m0).lt S.ok
 refine ly S (enc := encI .i64) Tryz.u25 Tryz.e2E (by decide) Tryz.n25 (ga.Y.gr S.gr) (fun x => rfl) (by decide) (by omega) (S.row (b := b9) m0) ?_
 intro h v2 g s2 q2 _
 have p2 : ∀ c, av v2 c → b9 ≤ c := fun c hc => by have := q2 c hc; omega
 have gn9 := g.n
 replace S := (S.call g).drop1
 replace s1 := s1.gr g; clear g
 have u2 : ∀ c, av v2 c → c < h.n := fun c hc => s2.lt S.ok hc
 have Sb := S
 have i2 := S.fr.n
 replace S := S.base
 simp only [BS, LB, cls, Nat.reduceAdd, Nat.reducePow, Nat.reduceDiv, Nat.reduceMod, Nat.reduceLeDiff]
 refine bM (bu (by first | exact Tryz.u25 | exact Tryz.u29) (by first | exact Tryz.e2E | exact Tryz.e56E) (by decide) (by first | rfl | exact fillE )) S ?_; clear S; intro h b13 S n_b13 e_b13; simp only [aO, aT, ae, List.cons_append, List.nil_append, List.append_nil, List.set_cons_zero, List.set_cons_succ, Nat.reduceMul, Nat.reduceAdd, Nat.zero_mul, Nat.zero_add, Nat.mul_one, Nat.one_mul] at S
 rw [← e_b13] at u2
 have b59 : b5 < b9 := by omega
 replace s1 := s1.mo S.fr (fun c hc hk => by have := p1 c hc; have := z0 c hk; omega)
 replace s2 := s2.mo S.fr (fun c hc hk => by have := p2 c hc; have := z0 c hk; omega)
 replace S := Sb.rebase S
 clear Sb
 simp only [BS, LB, cls, Nat.reduceLT, Nat.reduceEqDiff, Nat.reduceAdd, Nat.reducePow, Nat.reduceDiv, Nat.reduceMod, Nat.reduceLeDiff, Tryz.FFrl2169, S.ld (b := b) (o := 3) (by repeat constructor) rfl]
 have l13 := (S.row (b := b13) m0).lt S.ok
 refine hQ (S.cloneW (enc := bI) Tryz.u29 Tryz.e56E (by decide) Tryz.n29 (ga.A.gr S.gr) cE (by decide) (by omega) (S.row (b := b13) m0)) ?_
 clear S; rintro h v3 ⟨S, g, s3, q3, w3⟩
 have p3 : ∀ c, av v3 c → b13 ≤ c := fun c hc => by have := q3 c hc; omega
 have gn13 := g.n
 replace S := S.drop1
 replace s1 := s1.gr g; replace s2 := s2.gr g; clear g
 have b913 : b9 < b13 := by omega
 obtain ⟨va1, vn1, vc1, rfl⟩ := s1.form
 obtain ⟨va2, vn2, vc2, rfl⟩ := s2.form
 obtain ⟨va3, vn3, vc3, rfl⟩ := s3.form
 have f1 := s1.fl
 have f2 := s2.fl
 have f3 := s3.fl
 have kb := z0 b (by simp [keys])
 have kb2 := z0 b2 (by simp [keys])
 simp only [BS, LB, cls, Nat.reduceLT, Nat.reduceEqDiff, Nat.reduceAdd, Nat.reducePow, Nat.reduceDiv, Nat.reduceMod, Nat.reduceLeDiff, Tryz.FFrl2169]
 refine aJ (S.store (i := 0) rfl Tryz.s31 (by intro x e; cases e) rfl (by simp only [ae, List.all_cons, List.all_nil, f1.2.1, f2.2.1, f3.2.1, Bool.and_true]; rfl) (lbt rfl) ono) ?_
 clear S; rintro h ⟨S, mo⟩
 simp only [List.set_cons_zero, List.set_cons_succ, ae, lay, List.take, List.drop, List.nil_append, List.cons_append, List.append_nil, List.length_cons, List.length_nil, Nat.reduceAdd, Nat.add_zero] at S
 simp only [BS, an, Nat.reduceAdd]
 have d5 : b ≠ b5 := by omega
 have d9 : b ≠ b9 := by omega
 have d13 : b ≠ b13 := by omega
 refine ⟨by simp only [cq, cC, bV, cK, cg, ne_eq, not_false_eq_true, cJ, da, cu, cj, dr, dW, bc, Nat.reduceLT, Nat.reduceEqDiff, reduceIte, Bool.and_true, ah, bN, nw, oP, bP d5, bP d9, bP d13, bP d5.symm, bP d9.symm, bP d13.symm, bP (show b9 ≠ b13 by omega), bP (show b5 ≠ b9 by omega), bP (show b5 ≠ b13 by omega), bP (show b9 ≠ b5 by omega)], ?_⟩
 refine ⟨_, ig (by decide) (by simp only [bc, ah, Nat.reduceEqDiff, reduceIte]; exact cG Tryz.a31 Tryz.s31 (S.lds (b := b2) (o := 0) (n := 4) m0 (lbt rfl))), ?_⟩
 refine ⟨S.gr, _, _, _, rfl, ⟨s1.mo mo (fun c hc e => ?_), s2.mo mo (fun c hc e => ?_), s3.mo mo (fun c hc e => ?_)⟩, w3.mo mo (fun c hc e => ?_), fun c hc => ?_, fun c hc => ⟨fun h1 => ?_, fun h2 => ?_⟩⟩
 · have := p1 c hc; omega
 · have := p2 c hc; omega
 · have := p3 c hc; omega
 · have := p3 c hc; omega
 · rcases hc with h | h | h
   · have := p1 c h; omega
   · have := p2 c h; omega
   · have := p3 c h; omega
 · have := p3 c hc; have := u1 c h1; omega
 · have := p3 c hc; have := u2 c h2; omega
def fU (A : List Arc) (k : Nat) : List Arc := (A.take k).map bT ++ A.drop k
theorem lZ (A : List Arc) (k : Nat) : (fU A k).length = A.length := by simp [fU]; omega
theorem qm {A : List Arc} : ∀ {k : Nat} (hk : k < A.length) (x : Nat), (A.flatMap bI).set (k * 3) (.int .i64 (x : Nat)) = (A.set k ⟨x, A[k].t, A[k].w⟩).flatMap bI ∧ (A.flatMap bI).set (k * 3 + 1) (.int .i64 (x : Nat)) = (A.set k ⟨A[k].s, x, A[k].w⟩).flatMap bI := by
 induction A with
 | nil => intro k hk; simp at hk
 | cons a A ih =>
   intro k hk x
   cases k with
   | zero => exact ⟨rfl, rfl⟩
   | succ k =>
     obtain ⟨h1, h2⟩ := ih (k := k) (by simpa using hk) x
     have e1 : (k + 1) * 3 = k * 3 + 3 := by omega
     have e2 : (k + 1) * 3 + 1 = k * 3 + 1 + 3 := by omega
     rw [e1, show k * 3 + 3 + 1 = k * 3 + 1 + 3 from rfl]
     simp only [List.flatMap_cons, bI, List.cons_append, List.nil_append, List.set_cons_succ, List.getElem_cons_succ] at h1 h2 ⊢
     exact ⟨by rw [h1], by rw [h2]⟩
theorem sY {A : List Arc} {k : Nat} (hk : k < A.length) : ((fU A k).set k ⟨A[k].t, A[k].t, A[k].w⟩).set k ⟨A[k].t, A[k].s, A[k].w⟩ = fU A (k + 1) := by
 have hl : ((A.take k).map bT).length = k := by simp; omega
 rw [List.set_set]
 unfold fU
 rw [List.set_append_right _ _ (by omega), hl, Nat.sub_self, List.drop_eq_getElem_cons hk, List.set_cons_zero, List.take_succ_eq_append_getElem hk, List.map_append, List.append_assoc]
 rfl
theorem turnK_at {A : List Arc} {k : Nat} (hk : k < A.length) : (fU A k)[k]? = some A[k] := by
 have hl : ((A.take k).map bT).length = k := by simp; omega
 unfold fU
 rw [List.getElem?_append_right (by omega), hl, Nat.sub_self, List.drop_eq_getElem_cons hk]; rfl
def jG (γ : Gra) : Gra := { γ with arcs := γ.arcs.map bT }
theorem turnK_all (A : List Arc) : fU A A.length = A.map bT := by simp [fU]
theorem turned_ok {h0 : Hp} (ok : h0.t.Sized h0.n) {γ : Gra} (hγ : Good γ) {vx vy va : Value} (ga : bw h0 vx vy va γ) :
 Ret Tryz.abEnv 109 [bS γ vx vy va] h0 fun r h' => Gr h0 h' ∧ ∃ vx' vy' va', r = bS γ vx' vy' va' ∧ bw h' vx' vy' va' (jG γ) := by
 have S := St.init (M := NoM) ok
 have many := hγ.many
 have fx := ga.X.fl
 have fy := ga.Y.fl
 have fa := ga.A.fl
 refine aq (n := 37) (rs := [.cell 2 31]) rfl Tryz.e109 rfl rfl rfl (lbt rfl) ?_
 simp only [BS, Nat.reduceLT, bS]
 refine ao (bn (by intro x e; cases e)) S ?_; clear S; intro h b1 S n_b1; simp only [ae] at S
 simp only [BS, Tryz.FFrl2109]
 refine ao aH S ?_; clear S; intro h b2 S n_b2
 simp only [BS, LB, Nat.reduceLT, Nat.reduceEqDiff, Tryz.FFrl2109, S.lds (b := b1) (o := 0) (n := 4) (by repeat constructor) (lbt rfl)]
 have zk := fun c (hc : c ∈ keys _ _) => S.key_lt hc
 have i0 := S.fr.n
 have cp := th S.ok hγ (ga.gr S.gr)
 unfold bS at cp
 refine step_ret cp ?_
 rintro r h ⟨g, vx', vy', va', er, ga', w', hb, hd⟩
 subst er
 have S1 := S.call g
 clear S
 have ok1 := S1.ok
 have fx' := ga'.X.fl
 have fy' := ga'.Y.fl
 have fa' := ga'.A.fl
 have S := S1.base
 simp only [BS, Tryz.FFrl2109]
 refine ao aH S ?_; clear S; intro h b3 S n_b3
 simp only [BS, LB, Nat.reduceLT, Nat.reduceEqDiff]
 refine aa (S.store (i := 0) rfl Tryz.s31 (by intro x e; cases e) rfl (by simp only [ae, List.all_cons, List.all_nil, fx'.2.1, fy'.2.1, fa'.2.1, Bool.and_true]; rfl) (lbt rfl) ono) ?_
 clear S; rintro h ⟨S, _⟩
 simp only [List.set_cons_zero, List.set_cons_succ, ae, lay, List.take, List.drop, List.nil_append, List.cons_append, List.append_nil, List.length_cons, List.length_nil, Nat.reduceAdd, Nat.add_zero] at S
 have lX : ∀ c, av vx' c → c < b3 := fun c hc => by have := ga'.X.lt ok1 hc; omega
 have lY : ∀ c, av vy' c → c < b3 := fun c hc => by have := ga'.Y.lt ok1 hc; omega
 have lA : ∀ c, av va' c → c < b3 := fun c hc => by have := ga'.A.lt ok1 hc; omega
 replace ga' := ga'.mo S.fr (fun c hc hk => by have := hb c hc; have := zk c hk; omega)
 replace w' := w'.mo S.fr (fun c hc hk => by have := hb c (.inr (.inr hc)); have := zk c hk; omega)
 replace S := S1.rebase S
 clear S1 g cp
 simp only [BS]
 have k1 := zk b1 (by simp [keys])
 have k2 := zk b2 (by simp [keys])
 by_cases hne : γ.arcs = []
 · refine aW (fun (k : Nat) ρ h' => h' = h ∧ ρ 1 = ptrTo b1 ∧ ρ 2 = ptrTo b2 ∧ ρ 3 = ptrTo b3 ∧ ρ 4 = .int .i64 (0 : Nat)) (fun k => 1 - k) ?_ 0 _ _ ?_
   · rintro k ih ρ h' ⟨rfl, r1, r2, r3, r4⟩
     have h00 : ¬ ((0 : Nat) < γ.arcs.length) := by rw [hne]; decide
     have h01 : ¬ ((0 : Int) < (γ.arcs.length : Int)) := by omega
     simp only [BS, LB, Nat.reduceLT, Nat.reduceEqDiff, Int.cast_ofNat_Int, Tryz.FFrl2109, r2, r3, r4, ga'.A.lenq, h01, List.drop_zero, List.take_succ_cons, List.take_zero, S.lds (b := b3) (o := 0) (n := 4) (by repeat constructor) (lbt rfl), S.ld (b := b3) (o := 3) (by repeat constructor) rfl]
     refine aa (S.store (i := 1) rfl Tryz.s31 (by intro x e; cases e) rfl (by simp only [ae, List.all_cons, List.all_nil, fx'.2.1, fy'.2.1, fa'.2.1, Bool.and_true]; rfl) (lbt rfl) ono) ?_
     rintro h ⟨S, mo⟩
     simp only [List.set_cons_zero, List.set_cons_succ, ae, lay, List.take, List.drop, List.nil_append, List.cons_append, List.append_nil, List.length_cons, List.length_nil, Nat.reduceAdd, Nat.add_zero] at S
     simp only [BS, an]
     refine ⟨_, ig (by decide) (by simp only [bc, r2, ah, Nat.reduceEqDiff, reduceIte]; exact cG Tryz.a31 Tryz.s31 (S.lds (b := b2) (o := 0) (n := 4) m1 (lbt rfl))), ?_⟩
     refine ⟨S.gr, _, _, _, rfl, ⟨ga'.X.mo mo (fun c hc e => ?_), ga'.Y.mo mo (fun c hc e => ?_), ?_⟩⟩
     · have := hb c (.inl hc); omega
     · have := hb c (.inr (.inl hc)); omega
     · have := ga'.A.mo mo (fun c hc e => by have := hb c (.inr (.inr hc)); omega)
       simpa [jG, hne] using this
   · exact ⟨rfl, by simp [ac, ah], by simp [ac, ah], by simp [ac, ah], by simp [ac]⟩
 · obtain ⟨ba, e, row⟩ := w' hne
   subst e
   have nba := hb ba (.inr (.inr rfl))
   have nb3 := lA ba rfl
   replace S := S.push (b := ba) (o := .row (γ.arcs.flatMap bI) 1) (.inl (by omega)) row (by intro hc; simp [keys] at hc; have := zk b1 (by simp [keys]); have := zk b2 (by simp [keys]); omega)
   have SL := S
   replace S := S.base
   refine aW (fun (k : Nat) ρ h' => k ≤ γ.arcs.length ∧ St (· ∈ keys [(ba, Ob.row (γ.arcs.flatMap bI) 1), (b3, .row [.int .i64 γ.nodes, vx', vy', .slice (some ⟨ba, 0, some 3⟩) γ.arcs.length γ.arcs.length] 1), (b2, .row [.int .i64 0, .slice none 0 0, .slice none 0 0, .slice none 0 0] 1), (b1, .row [.int .i64 γ.nodes, vx, vy, va] 1)] []) h h' [(ba, Ob.row ((fU γ.arcs k).flatMap bI) 1), (b3, .row [.int .i64 γ.nodes, vx', vy', .slice (some ⟨ba, 0, some 3⟩) γ.arcs.length γ.arcs.length] 1), (b2, .row [.int .i64 0, .slice none 0 0, .slice none 0 0, .slice none 0 0] 1), (b1, .row [.int .i64 γ.nodes, vx, vy, va] 1)] [] ∧ ρ 1 = ptrTo b1 ∧ ρ 2 = ptrTo b2 ∧ ρ 3 = ptrTo b3 ∧ ρ 4 = .int .i64 k) (fun k => γ.arcs.length - k) ?_ 0 _ _ ?_
   · clear S
     intro k ih ρ h2 ⟨hk, S, r1, r2, r3, r4⟩
     have wk : aw .i64 ((k : Int) + 1) = ((k + 1 : Nat) : Int) := by rw [wrap64] <;> omega
     have GA := ga.gr (SL.rebase S).gr
     by_cases hkt : k < γ.arcs.length
     · obtain ⟨c3, o3, x3, y3⟩ := GA.A.ix (kd := .i64) cE hkt
       have y31 : h2.load c3 (o3 + 1) 1 = some [.int .i64 (γ.arcs[k].t : Nat)] := hU y3 (i := 1) (m := 1) (by omega)
       have y30 : h2.load c3 o3 1 = some [.int .i64 (γ.arcs[k].s : Nat)] := hU y3 (i := 0) (m := 1) (by omega)
       have ipk : dY (.int .i64 (k : Int)) γ.arcs.length = some k := fo hkt
       simp only [BS, LB, Nat.reduceLT, Nat.reduceEqDiff, Tryz.FFrl2109, r3, r4, aL, hkt, S.ld (b := b3) (o := 3) (by repeat constructor) rfl]
       refine az (aD rfl) (q := 0) (ps := []) (by kernel_rfl) ?_
       simp only [BS, LB, cls, Nat.reduceLT, Nat.reduceEqDiff, Nat.reduceAdd, Nat.reducePow, Nat.reduceDiv, Nat.reduceMod, Nat.reduceLeDiff, Tryz.FFrl2109, r1, r3, r4, x3, y31, ipk, S.ld (b := b3) (o := 3) (by repeat constructor) rfl, S.ld (b := b1) (o := 3) (by repeat constructor) rfl]
       have len3 : (List.flatMap bI (fU γ.arcs k)).length = γ.arcs.length * 3 := by rw [aK cE, lZ]
       refine aJ (ab S (i := 0) rfl Tryz.s3 aF (by rw [len3]; omega) ono) ?_
       clear S y30 y31 x3 y3; rintro h2 ⟨S, _⟩
       have hk1 : k < (fU γ.arcs k).length := by rw [lZ]; exact hkt
       have eg : (fU γ.arcs k)[k] = γ.arcs[k] := Option.some.inj ((List.getElem?_eq_getElem hk1).symm.trans (turnK_at hkt))
       simp only [List.set_cons_zero] at S
       rw [(qm hk1 _).1, eg] at S
       have GA := ga.gr (SL.rebase S).gr
       obtain ⟨c3, o3, x3, y3⟩ := GA.A.ix (kd := .i64) cE hkt
       have y30 : h2.load c3 o3 1 = some [.int .i64 (γ.arcs[k].s : Nat)] := hU y3 (i := 0) (m := 1) (by omega)
       simp only [BS, LB, Nat.reduceAdd]
       refine az (aD rfl) (q := 0) (ps := []) (by kernel_rfl) ?_
       simp only [BS, LB, cls, Nat.reduceLT, Nat.reduceEqDiff, Nat.reduceAdd, Nat.reducePow, Nat.reduceDiv, Nat.reduceMod, Nat.reduceLeDiff, Tryz.FFrl2109, r1, r3, r4, x3, y30, ipk, S.ld (b := b3) (o := 3) (by repeat constructor) rfl, S.ld (b := b1) (o := 3) (by repeat constructor) rfl]
       refine aJ (ab S (i := 0) rfl Tryz.s3 aF (by rw [aK cE, List.length_set, lZ]; omega) ono) ?_
       clear S; rintro h2 ⟨S, _⟩
       have hk2 : k < ((fU γ.arcs k).set k ⟨γ.arcs[k].t, γ.arcs[k].t, γ.arcs[k].w⟩).length := by rw [List.length_set]; exact hk1
       simp only [List.set_cons_zero] at S
       rw [(qm hk2 _).2, List.getElem_set_self, sY hkt] at S
       simp only [BS, LB, Nat.reduceLT, Nat.reduceEqDiff, Nat.reduceAdd, r4, wk]
       exact ih (k + 1) _ _ (by omega) ⟨by omega, S, by simp [ac, r1, ah], by simp [ac, r2, ah], by simp [ac, r3, ah], by simp [ac]⟩
     · have hkk : k = γ.arcs.length := by omega
       subst hkk
       rw [turnK_all] at S
       simp only [BS, LB, Nat.reduceLT, Nat.reduceEqDiff, Tryz.FFrl2109, r2, r3, r4, aL, hkt, List.drop_zero, List.take_succ_cons, List.take_zero, S.lds (b := b3) (o := 0) (n := 4) (by repeat constructor) (lbt rfl), S.ld (b := b3) (o := 3) (by repeat constructor) rfl]
       refine aa (S.store (i := 2) rfl Tryz.s31 (by intro x e; cases e) rfl (by simp only [ae, List.all_cons, List.all_nil, fx'.2.1, fy'.2.1, fa'.2.1, Bool.and_true]; rfl) (lbt rfl) ono) ?_
       clear S; rintro h2 ⟨S, mo⟩
       simp only [List.set_cons_zero, List.set_cons_succ, ae, lay, List.take, List.drop, List.nil_append, List.cons_append, List.append_nil, List.length_cons, List.length_nil, Nat.reduceAdd, Nat.add_zero] at S
       simp only [BS, an]
       refine ⟨_, ig (by decide) (by simp only [bc, r2, ah, Nat.reduceEqDiff, reduceIte]; exact cG Tryz.a31 Tryz.s31 (S.lds (b := b2) (o := 0) (n := 4) m2 (lbt rfl))), ?_⟩
       have row := S.row (b := ba) m0
       refine ⟨(SL.rebase S).gr, _, _, _, rfl, ⟨ga'.X.mo S.fr (fun c hc e => ?_), ga'.Y.mo S.fr (fun c hc e => ?_), ?_⟩⟩
       · have := hb c (.inl hc); have := lX c hc; have h1 := hd ba rfl
         simp [keys] at e
         rcases e with rfl | rfl | rfl | rfl
         · exact h1.1 hc
         all_goals omega
       · have := hb c (.inr (.inl hc)); have := lY c hc; have h1 := hd ba rfl
         simp [keys] at e
         rcases e with rfl | rfl | rfl | rfl
         · exact h1.2 hc
         all_goals omega
       · refine .inr ⟨ba, 0, some 3, γ.arcs.length, by simp [jG], by simp [jG], ?_⟩
         rw [row.load (by rw [aK cE]; simp [jG])]
         have e : (jG γ).arcs.length * 3 = (List.flatMap bI (List.map bT γ.arcs)).length := by rw [aK cE]; rfl
         rw [e, List.drop_zero, List.take_length]; rfl
   · exact ⟨Nat.zero_le _, S, by simp [ac, ah], by simp [ac, ah], by simp [ac, ah], by simp [ac]⟩
end Go.Ab

end
section
namespace Go.Ab
open Go.Proofs
set_option maxRecDepth 10000
theorem good_turn {γ : Gra} (hγ : Good γ) : Good (jG γ) :=
 ⟨hγ.n1, hγ.n2, hγ.lX, hγ.lY, hγ.cX, hγ.cY, by simpa [jG] using hγ.many, fun a ha => by
  obtain ⟨b, hb, rfl⟩ := List.mem_map.1 ha
  exact ⟨(hγ.arcs b hb).2.1, (hγ.arcs b hb).1, (hγ.arcs b hb).2.2⟩⟩
end Go.Ab

end
section
namespace Go.Ab
theorem St.toL {M : Nat → Prop} {h0 h : Hp} {L : List (Nat × Ob)} {v : Value} {vs : List Value} (S : St M h0 h L [(v, 1, vs)]) (hne : vs ≠ []) : ∃ b, v = .slice (some ⟨b, 0, some 1⟩) vs.length vs.length ∧ St M h0 h ((b, .row vs 1) :: L) [] := by
 obtain ⟨g, k⟩ := S.gown _ (List.mem_singleton.2 rfl)
 rcases g with ⟨_, e⟩ | ⟨b, n, e1, e2, e3⟩
 · exact absurd e hne
 · have en : n = vs.length := by rw [← show n * 1 = vs.length from e2, Nat.mul_one]
   subst en
   have ev : v = .slice (some ⟨b, 0, some 1⟩) vs.length vs.length := e1
   have hk : dK (v, 1, vs) = some b := by rw [ev]; rfl
   have ap := S.apart
   have nb : b ∉ L.map Prod.fst := by
    have h1 := ap
    unfold keys at h1
    rw [List.nodup_append] at h1
    exact fun hc => h1.2.2 b hc b (List.mem_filterMap.2 ⟨_, List.mem_singleton.2 rfl, hk⟩) rfl
   refine ⟨b, ev, St.push (St.sub S (List.Sublist.refl _) (List.nil_sublist _)) (k b hk) e3 ?_⟩
   simpa [keys] using nb
def iw (N : Nat) (l : Nat → Nat) : List Value := (List.range N).map fun v => .int .i64 (l v : Nat)
theorem rL {N : Nat} {l : Nat → Nat} {v : Nat} (h : v < N) : (iw N l)[v]? = some (.int .i64 (l v : Nat)) := gI (F := fun v => Value.int .i64 ((l v : Nat) : Int)) h
theorem kc (N : Nat) (l : Nat → Nat) : (iw N l).length = N := by simp [iw]
theorem pX {N : Nat} {l : Nat → Nat} {v x : Nat} : (iw N l).set v (.int .i64 (x : Nat)) = iw N (cy l v x) := by
 have := ic (N := N) (k := v) (F := fun v => Value.int .i64 ((l v : Nat) : Int)) (F' := fun u => Value.int .i64 ((cy l v x u : Nat) : Int)) (fun u _ hu => by unfold cy; rw [if_neg hu])
 unfold iw
 rw [← this]
 simp [cy]
def Rlx (B : List Arc) (k : Nat) (l : Nat → Nat) : Prop := ∀ j, j < k → l (B.getD j default).s < FAR → l (B.getD j default).t ≤ l (B.getD j default).s + (B.getD j default).w
end Go.Ab

end
section
namespace Go.Ab
open Go.Proofs
set_option maxRecDepth 10000
open Tryz in
def Tryz.FFsh1108 := aj a1 <| aj s1 <| aj z1 <| aj n1 <| aj u2 <| aj a2 <| aj s2 <| aj z2 <| aj i2 <| aj u3 <| aj a3 <| aj s3 <| aj z3 <| aj i3 <| aj u4 <| aj a4 <| aj s4 <| aj z4 <| aj n4 <| aj u5 <| aj a5 <| aj s5 <| aj z5 <| aj i5 <| aj u6 <| aj a6 <| aj s6 <| aj z6 <| aj i6 <| aj a7 <| aj s7 <| aj z7 <| aj i7 <| aj n7 <| aj p7 <| aj ff7 <| aj d7 <| aj a8 <| aj s8 <| aj z8 <| aj i8 <| aj n8 <| aj p8 <| aj ff8 <| aj d8 <| aj u9 <| aj a9 <| aj s9 <| aj z9 <| aj n9 <| aj u10 <| aj a10 <| aj s10 <| aj z10 <| aj n10 <| aj u11 <| aj a11 <| aj s11 <| aj z11 <| aj n11 <| aj u12 <| aj a12 <| aj s12 <| aj z12 <| aj i12 <| aj a13 <| aj s13 <| aj z13 <| aj i13 <| aj n13 <| aj p13 <| aj ff13 <| aj d13 <| aj a14 <| aj s14 <| aj z14 <| aj i14 <| aj n14 <| aj p14 <| aj ff14 <| aj d14 <| aj u15 <| aj a15 <| aj s15 <| aj z15 <| aj q15 <| aj i15 <| aj n15 <| aj u16 <| aj a16 <| aj s16 <| aj z16 <| aj q16 <| aj i16 <| aj n16 <| aj u17 <| aj a17 <| aj s17 <| aj z17 <| aj q17 <| aj i17 <| aj n17 <| aj a18 <| aj s18 <| aj z18 <| aj i18 <| aj n18 <| aj p18 <| aj ff18 <| aj d18 <| aj a19 <| aj s19 <| aj z19 <| aj i19 <| aj n19 <| aj p19 <| aj ff19 <| aj d19 <| aj u25 <| aj a25 <| aj s25 <| aj z25 <| aj q25 <| aj n25 <| aj u29 <| aj a29 <| aj s29 <| aj z29 <| aj q29 <| aj n29 <| aj a31 <| aj s31 <| aj z31 <| aj i31 <| aj n31 <| aj p31 <| aj ff31 <| aj d31 <| aj u38 <| aj a38 <| aj s38 <| aj z38 <| aj q38 <| aj n38 <| aj a56 <| aj s56 <| aj z56 <| aj i56 <| aj n56 <| aj p56 <| aj ff56 <| aj d56 <| aj u156 <| aj a156 <| aj s156 <| aj z156 <| aj q156 <| aj i156 <| aj n156 <| aj u231 <| aj a231 <| aj s231 <| aj z231 <| aj i231 <| aj u283 <| aj a283 <| aj s283 <| aj z283 <| aj i283 <| aj a300 <| aj s300 <| aj z300 <| aj i300 <| aj n300 <| aj p300 <| aj ff300 <| aj d300 <| aj u301 <| aj a301 <| aj s301 <| aj z301 <| aj n301 <| aj a303 <| aj s303 <| aj z303 <| aj i303 <| aj n303 <| aj u305 <| aj a305 <| aj s305 <| aj z305 <| aj i305 <| aj a306 <| aj s306 <| aj z306 <| aj n306 <| aj u307 <| aj a307 <| aj s307 <| aj z307 <| aj i307 <| aj u308 <| aj a308 <| aj s308 <| aj z308 <| aj i308 <| aj a310 <| aj s310 <| aj z310 <| aj i310 <| aj n310 <| aj p310 <| aj ff310 <| d310
theorem oD {h0 : Hp} (ok : h0.t.Sized h0.n) {γ : Gra} (hγ : Good γ) {vx vy va : Value} (ga : bw h0 vx vy va γ) {s : Nat} (hs : s < γ.nodes) :
 Ret Tryz.abEnv 108 [bS γ vx vy va, .slice none 0 0, .int .i64 s] h0 fun r h' => Gr h0 h' ∧ ∃ l : Nat → Nat, (∀ v, l v ≤ FAR) ∧ aG h' 1 cL r ((List.range γ.nodes).map l) ∧ ∀ c, av r c → h0.n ≤ c := by
 have S := St.init (M := NoM) ok
 have n1 := hγ.n1
 have n2 := hγ.n2
 have many := hγ.many
 have fx := ga.X.fl
 have fy := ga.Y.fl
 have fa := ga.A.fl
 have hF := jO
 refine aq (n := 92) (rs := [.tmp 6]) rfl Tryz.e108 rfl rfl rfl (lbt rfl) ?_
 simp only [BS, Nat.reduceLT, bS]
 refine ao (bn (by intro x e; cases e)) S ?_; clear S; intro h b2 S n_b2; simp only [ae] at S
 simp only [BS]
 replace S := S.nilG (k := 1)
 refine aW (fun (i : Nat) ρ h => i ≤ γ.nodes ∧ ∃ (vR : Value), St NoM h0 h [(b2, .row [.int .i64 γ.nodes, vx, vy, va] 1)] [(vR, 1, List.replicate i (.int .i64 72057594037927936))] ∧ ρ 1 = .slice none 0 0 ∧ ρ 2 = .int .i64 s ∧ ρ 3 = ptrTo b2 ∧ ρ 7 = vR ∧ ρ 8 = .int .i64 i) (fun i => γ.nodes - i) ?_ 0 _ _ ?_
 · clear S
   intro i ih ρ h ⟨hi, vR, S, r0, r1, r2, r5, r6⟩
   by_cases hlt : i < γ.nodes
   · have w : aw .i64 ((i : Int) + 1) = ((i + 1 : Nat) : Int) := by rw [wrap64] <;> omega
     simp only [BS, LB, Nat.reduceLT, Nat.reduceEqDiff, Tryz.FFsh1108, r2, r5, r6, aL, hlt, S.ld (b := b2) (o := 0) (by repeat constructor) rfl]
     refine ao (bu (by first | exact Tryz.u25 | exact Tryz.u29 | exact Tryz.u38) (by first | exact Tryz.e2E | exact Tryz.e4E | exact Tryz.e56E) (by decide) (by first | rfl | exact fillE )) S ?_; clear S; intro h bt S n_bt; simp only [aO, aT, ae, List.cons_append, List.nil_append, List.append_nil, List.set_cons_zero, List.set_cons_succ, Nat.reduceMul, Nat.reduceAdd, Nat.zero_mul, Nat.zero_add, Nat.mul_one, Nat.one_mul] at S
     simp only [BS, LB, Nat.reduceLT, Nat.reduceEqDiff]
     have src : aQ h 1 (.slice (some ⟨bt, 0, none⟩) 1 1) = some (1, [.int .i64 72057594037927936]) := by simp only [aQ]; rw [S.lds (b := bt) (o := 0) (n := 1 * 1) m0 (lbt rfl)]; rfl
     replace S := S.drop1
     refine fh (S.grow (j := 0) (m := 1) (new := [.int .i64 72057594037927936]) rfl Tryz.u25 Tryz.e2E (by decide) Tryz.n25 src rfl (by decide) rfl (by simp; omega)) ?_
     clear S src; rintro h vR' S
     simp only [List.set_cons_zero, ← List.replicate_succ'] at S
     simp only [BS, LB, Nat.reduceLT, Nat.reduceEqDiff, r6, w]
     exact ih (i + 1) _ _ (by omega) ⟨by omega, vR', S, by simp [ac, r0], by simp [ac, r1], by simp [ac, r2, ah], by simp [ac], by simp [ac]⟩
   · have hiN : i = γ.nodes := by omega
     subst hiN
     have c1 : ¬ ((s : Int) < 0) := by omega
     have c2 : ¬ ((γ.nodes : Int) ≤ (s : Int)) := by omega
     obtain ⟨bl, ev, S2⟩ := S.toL (by intro e; have := congrArg List.length e; simp at this; omega)
     clear S
     have S := S2
     clear S2
     rw [List.length_replicate] at ev
     subst ev
     have e0 : List.replicate γ.nodes (Value.int .i64 72057594037927936) = iw γ.nodes fun _ => FAR := by
      unfold iw
      rw [List.map_const', List.length_range]; rfl
     rw [e0] at S
     have ips : dY (.int .i64 (s : Int)) γ.nodes = some s := fo hs
     simp only [BS, LB, Nat.reduceLT, Nat.reduceEqDiff, Tryz.FFsh1108, r1, r2, r5, r6, aL, hlt, c1, c2, ips, S.ld (b := b2) (o := 0) (by repeat constructor) rfl]
     refine aa (ab S (i := 0) rfl Tryz.s2 aF (by rw [kc]; omega) ono) ?_
     clear S; rintro h ⟨S, _⟩
     have e1 : ((0 : Int)) = ((0 : Nat) : Int) := rfl
     simp only [List.set_cons_zero] at S
     rw [e1, pX] at S
     simp only [BS]
     have L0 : Ls γ.arcs s γ.nodes (cy (fun _ => FAR) s 0) := by
      refine ⟨fun v => ?_, fun v => ?_, by simp [cy]⟩
      · unfold cy; split
        · omega
        · exact Nat.le_refl _
      · unfold cy; split
        · rename_i e; subst e; exact .inr .nil
        · exact .inl rfl
     refine aW (fun (a : (Nat → Nat) × Bool) ρ h => Ls γ.arcs s γ.nodes a.1 ∧ St NoM h0 h [(bl, .row (iw γ.nodes a.1) 1), (b2, .row [.int .i64 γ.nodes, vx, vy, va] 1)] [] ∧ (a.2 = false → Rlx γ.arcs γ.arcs.length a.1) ∧ ρ 1 = .slice none 0 0 ∧ ρ 3 = ptrTo b2 ∧ ρ 7 = .slice (some ⟨bl, 0, some 1⟩) γ.nodes γ.nodes ∧ ρ 9 = .bool a.2) (fun a => 2 * sumTo a.1 γ.nodes + a.2.toNat) ?_ (cy (fun _ => FAR) s 0, true) _ _ ?_
     · clear S L0 e0 r0 r1 r2 r5 r6 hi ih
       rintro ⟨l, more⟩ ih ρ h ⟨hL, S, hr, r0, r2, r5, r7⟩
       cases more with
       | false =>
         simp only [BS, LB, an, Nat.reduceLT, Nat.reduceEqDiff, r5, r7]
         have row := S.row (b := bl) m0
         refine ⟨S.gr, l, hL.le, .inr ⟨bl, 0, some 1, γ.nodes, by simp, by simp, ?_⟩, fun c hc => ?_⟩
         · have e4 : ∀ l : List Nat, l.flatMap cL = l.map fun (x : Nat) => Value.int .i64 x := fun l => by
            rw [List.flatMap_eq_foldl, List.map_eq_flatMap, List.flatMap_eq_foldl]; rfl
           have ec : ((List.range γ.nodes).map l).flatMap cL = iw γ.nodes l := by rw [e4, List.map_map]; rfl
           rw [ec, row.load (by rw [kc]; simp), List.drop_zero, List.take_of_length_le (by rw [kc]; simp)]
         · obtain rfl : bl = c := hc
           exact (S.own _ m0).1.elim (fun h => h) (fun h => h.elim)
       | true =>
         simp only [BS, LB, Nat.reduceLT, r7]
         refine aW (fun (k : Nat) ρ h => k ≤ γ.arcs.length ∧ ∃ (l' : Nat → Nat) (ch : Bool), Ls γ.arcs s γ.nodes l' ∧ St NoM h0 h [(bl, .row (iw γ.nodes l') 1), (b2, .row [.int .i64 γ.nodes, vx, vy, va] 1)] [] ∧ ((ch = false ∧ l' = l ∧ Rlx γ.arcs k l) ∨ (ch = true ∧ sumTo l' γ.nodes < sumTo l γ.nodes)) ∧ ρ 1 = .slice none 0 0 ∧ ρ 3 = ptrTo b2 ∧ ρ 7 = .slice (some ⟨bl, 0, some 1⟩) γ.nodes γ.nodes ∧ ρ 9 = .bool ch ∧ ρ 10 = .int .i64 k) (fun k => γ.arcs.length - k) ?_ 0 _ _ ?_
         · clear S r0 r2 r5 r7 hL
           intro k ihk ρ h ⟨hk, l', ch, hL, S, hc, r0, r2, r5, r7, r8⟩
           have wk : aw .i64 ((k : Int) + 1) = ((k + 1 : Nat) : Int) := by rw [wrap64] <;> omega
           have gaC := ga.A.gr S.gr
           by_cases hkt : k < γ.arcs.length
           · obtain ⟨c3, o3, x3, y3⟩ := gaC.ix (kd := .i64) cE hkt
             have am := List.getElem_mem hkt
             obtain ⟨a1, a2, a3⟩ := hγ.arcs _ am
             have ags : γ.arcs.getD k default = γ.arcs[k] := by simp [List.getD_eq_getElem?_getD, hkt]
             generalize γ.arcs[k] = a at am a1 a2 a3 ags y3
             have d1 := hL.le a.s
             have d2 := hL.le a.t
             simp only [BS, LB, Nat.reduceLT, Nat.reduceEqDiff, Tryz.FFsh1108, r2, r8, gaC.lenq, aL, hkt, x3, y3, S.ld (b := b2) (o := 3) (by repeat constructor) rfl]
             refine ao aH S ?_; clear S; intro h b9 S n_b9
             simp only [BS, LB, Nat.reduceLT, Nat.reduceEqDiff, bI]
             first | refine aa (S.store (i := 0) rfl ?_ ?_ rfl rfl ?_ ono) ?_ | refine aa (S.store (i := 1) rfl ?_ ?_ rfl rfl ?_ ono) ?_ | refine aa (S.store (i := 2) rfl ?_ ?_ rfl rfl ?_ ono) ?_ | refine aa (S.store (i := 3) rfl ?_ ?_ rfl rfl ?_ ono) ?_ | refine aa (S.store (i := 4) rfl ?_ ?_ rfl rfl ?_ ono) ?_ | refine aa (S.store (i := 5) rfl ?_ ?_ rfl rfl ?_ ono) ?_ | refine aa (S.store (i := 6) rfl ?_ ?_ rfl rfl ?_ ono) ?_ | refine aa (S.store (i := 7) rfl ?_ ?_ rfl rfl ?_ ono) ?_
             · exact (by first | exact Tryz.s7 | exact Tryz.s8 | exact Tryz.s13 | exact Tryz.s14 | exact Tryz.s18 | exact Tryz.s19 | exact Tryz.s31 | exact Tryz.s56 | exact Tryz.s300 | exact Tryz.s301 | exact Tryz.s303 | exact Tryz.s310)
             · exact (by intro x e; cases e)
             · exact lbt rfl
             clear S; rintro h ⟨S, mo⟩; clear mo; simp only [List.set_cons_zero, List.set_cons_succ, ae, lay, List.take, List.drop, List.nil_append, List.cons_append, List.append_nil, List.length_cons, List.length_nil, Nat.reduceAdd, Nat.add_zero] at S
             have ips : dY (.int .i64 (a.s : Int)) γ.nodes = some a.s := fo a1
             have ipt : dY (.int .i64 (a.t : Int)) γ.nodes = some a.t := fo a2
             have lds := S.ld (b := bl) (o := a.s) m1 (rL a1)
             have ldt := S.ld (b := bl) (o := a.t) m1 (rL a2)
             have wsum : aw .i64 ((l' a.s : Int) + (a.w : Int)) = ((l' a.s + a.w : Nat) : Int) := by rw [wrap64] <;> omega
             simp only [BS]
             refine az (aD rfl) (q := 0) (ps := []) (by kernel_rfl) ?_
             by_cases e1 : l' a.s < FAR
             · have e1' : (l' a.s : Int) < 72057594037927936 := by omega
               by_cases e2 : l' a.s + a.w < l' a.t
               · have e2' : ((l' a.s + a.w : Nat) : Int) < (l' a.t : Int) := by omega
                 simp only [BS, LB, cls, Nat.reduceLT, Nat.reduceEqDiff, Nat.reduceAdd, Nat.reducePow, Nat.reduceDiv, Nat.reduceMod, Nat.reduceLeDiff, Int.cast_ofNat_Int, Tryz.FFsh1108, r0, r5, ips, ipt, lds, ldt, wsum, e1', e2', S.ld (b := b9) (o := 0) (by repeat constructor) rfl, S.ld (b := b9) (o := 1) (by repeat constructor) rfl, S.ld (b := b9) (o := 2) (by repeat constructor) rfl]
                 refine az (aD rfl) (q := 0) (ps := []) (by kernel_rfl) ?_
                 simp only [BS, LB, cls, Nat.reduceLT, Nat.reduceEqDiff, Nat.reduceAdd, Nat.reducePow, Nat.reduceDiv, Nat.reduceMod, Nat.reduceLeDiff, Tryz.FFsh1108, r5, ips, ipt, lds, wsum, S.ld (b := b9) (o := 0) (by repeat constructor) rfl, S.ld (b := b9) (o := 1) (by repeat constructor) rfl, S.ld (b := b9) (o := 2) (by repeat constructor) rfl]
                 refine aJ (ab S (i := 1) rfl Tryz.s2 aF (by rw [kc]; omega) ono) ?_
                 clear S lds ldt; rintro h ⟨S, _⟩
                 simp only [List.set_cons_zero, List.set_cons_succ, pX] at S
                 simp only [BS, LB, Nat.reduceLT, Nat.reduceEqDiff, Nat.reduceAdd, r8, wk]
                 have hsum := sum_upd (l := l') (v := a.t) (x := l' a.s + a.w) a2
                 refine ihk (k + 1) _ _ (by omega) ⟨by omega, _, true, hL.step am e1 e2, S.drop1, .inr ⟨rfl, ?_⟩, by simp [ac, r0], by simp [ac, r2, ah], by simp [ac, r5], by simp [ac], by simp [ac]⟩
                 rcases hc with ⟨_, rfl, _⟩ | ⟨_, h⟩ <;> omega
               · have e2' : ¬ ((l' a.s + a.w : Nat) : Int) < (l' a.t : Int) := by omega
                 simp only [BS, LB, cls, Nat.reduceLT, Nat.reduceEqDiff, Nat.reduceAdd, Nat.reducePow, Nat.reduceDiv, Nat.reduceMod, Nat.reduceLeDiff, Int.cast_ofNat_Int, Tryz.FFsh1108, r0, r5, r8, ips, ipt, lds, ldt, wsum, e1', e2', wk, S.ld (b := b9) (o := 0) (by repeat constructor) rfl, S.ld (b := b9) (o := 1) (by repeat constructor) rfl, S.ld (b := b9) (o := 2) (by repeat constructor) rfl]
                 refine ihk (k + 1) _ _ (by omega) ⟨by omega, _, ch, hL, S.drop1, hc.imp (fun ⟨x, y, z⟩ => ⟨x, y, fun j hj => ?_⟩) id, by simp [ac, r0], by simp [ac, r2, ah], by simp [ac, r5], by simp [ac, r7], by simp [ac]⟩
                 by_cases ej : j = k
                 · subst ej; subst y; rw [ags]; intro _; omega
                 · exact z j (by omega)
             · have e1' : ¬ (l' a.s : Int) < 72057594037927936 := by omega
               simp only [BS, LB, cls, Nat.reduceLT, Nat.reduceEqDiff, Nat.reduceAdd, Nat.reducePow, Nat.reduceDiv, Nat.reduceMod, Nat.reduceLeDiff, Int.cast_ofNat_Int, Tryz.FFsh1108, r0, r5, r8, ips, lds, e1', wk, S.ld (b := b9) (o := 0) (by repeat constructor) rfl, S.ld (b := b9) (o := 1) (by repeat constructor) rfl, S.ld (b := b9) (o := 2) (by repeat constructor) rfl]
               refine ihk (k + 1) _ _ (by omega) ⟨by omega, _, ch, hL, S.drop1, hc.imp (fun ⟨x, y, z⟩ => ⟨x, y, fun j hj => ?_⟩) id, by simp [ac, r0], by simp [ac, r2, ah], by simp [ac, r5], by simp [ac, r7], by simp [ac]⟩
               by_cases ej : j = k
               · subst ej; subst y; rw [ags]; intro h; exact absurd h e1
               · exact z j (by omega)
           · simp only [BS, LB, an, Nat.reduceLT, Nat.reduceEqDiff, Tryz.FFsh1108, r2, r5, r8, gaC.lenq, aL, hkt, S.ld (b := b2) (o := 3) (by repeat constructor) rfl]
             have hk' : k = γ.arcs.length := by omega
             subst hk'
             refine ih (l', ch) _ _ ?_ ⟨hL, S, fun h => ?_, by simp [ac, r0], by simp [ac, r2, ah], by simp [ac, r5], by simp [ac, r7]⟩
             · rcases hc with ⟨rfl, rfl, _⟩ | ⟨rfl, h⟩
               · simp
               · simp; omega
             · rcases hc with ⟨_, rfl, h⟩ | ⟨h2, _⟩
               · exact h
               · exact absurd (h2.symm.trans h) (by decide)
         · exact ⟨Nat.zero_le _, l, false, hL, S, .inl ⟨rfl, rfl, fun j hj => by omega⟩, by simp [ac, r0], by simp [ac, r2, ah], by simp [ac, r5], by simp [ac], by simp [ac]⟩
     · exact ⟨L0, S, fun h => (by cases h), by simp [ac, r0], by simp [ac, r2, ah], by simp [ac, r5], by simp [ac]⟩
 · exact ⟨Nat.zero_le _, _, S, by simp [ac, et], by simp [ac, et], by simp [ac, ah], by simp [ac], by simp [ac]⟩
end Go.Ab

end
section
namespace Go.Ab
def SlW (h : Hp) (kd : IntKind) (v : Value) (xs : List Int) : Prop := (v = .slice none 0 0 ∧ xs = []) ∨ ∃ b o c, v = .slice (some ⟨b, o, none⟩) xs.length c ∧ xs.length ≤ c ∧ h.load b o (xs.length * 1) = some (xs.flatMap (encI kd))
theorem SlW.sl {h : Hp} {kd : IntKind} {v : Value} {xs : List Int} (s : SlW h kd v xs) : aG h 1 (encI kd) v xs := s.imp (fun h => h) (fun ⟨b, o, c, h1, h2, h3⟩ => ⟨b, o, none, c, h1, h2, h3⟩)
theorem SlW.low {E : Env} {h : Hp} {kd kd' : IntKind} {t e : TypeId} {v : Value} {xs : List Int} (hu : E.und t = some (.slice e)) (hs : E.sz e = some 1) (s : SlW h kd v xs) {n : Nat} (hn : n ≤ xs.length) :
 ∃ v', dV E t v none (some (.int kd' (n : Int))) none = some v' ∧ aG h 1 (encI kd) v' (xs.take n) ∧ ∀ c, av v' c → av v c := by
 have nat : ∀ n : Nat, eC (n : Int) = some n := fun n => rfl
 rcases s with ⟨rfl, rfl⟩ | ⟨b, o, c, rfl, h2, h3⟩
 · have : n = 0 := by simpa using hn
   subst this
   refine ⟨.slice none 0 0, ?_, .inl ⟨rfl, rfl⟩, fun c hc => hc⟩
   simp only [dV, hu, dJ, dG, nat, hs]
   rfl
 · refine ⟨.slice (some ⟨b, o, none⟩) n c, ?_, .inr ⟨b, o, none, c, ?_, ?_, ?_⟩, fun c hc => hc⟩
   · simp only [dV, hu, dJ, dG, nat, Nat.ble_eq_true_of_le (Nat.le_trans hn h2), cond_true, hs, Option.isSome_none, cond_false, Nat.sub_zero, dv, Nat.zero_mul, Nat.add_zero]
     by_cases hc : c = 0
     · subst hc; rfl
     · rw [show Nat.beq c 0 = false by cases c with | zero => exact absurd rfl hc | succ c => rfl]; rfl
   · rw [List.length_take, Nat.min_eq_left hn]
   · rw [List.length_take, Nat.min_eq_left hn]; exact Nat.le_trans hn h2
   · rw [List.length_take, Nat.min_eq_left hn]
     have := hU h3 (i := 0) (m := n * 1) (by omega)
     rw [Nat.add_zero, List.drop_zero] at this
     rw [this]
     congr 1
     refine List.ext_getElem? fun i => ?_
     have e4 : ∀ l : List Int, l.flatMap (encI kd) = l.map fun x => .int kd x := fun l => by
      rw [List.flatMap_eq_foldl, List.map_eq_flatMap, List.flatMap_eq_foldl]; rfl
     rw [e4, e4, Nat.mul_one, List.map_take]
end Go.Ab

end
section
namespace Go.Ab
open Go.Proofs
set_option maxRecDepth 10000
open Tryz in
def Tryz.FFs810 := aj a1 <| aj s1 <| aj z1 <| aj n1 <| aj u2 <| aj a2 <| aj s2 <| aj z2 <| aj i2 <| aj u3 <| aj a3 <| aj s3 <| aj z3 <| aj i3 <| aj u5 <| aj a5 <| aj s5 <| aj z5 <| aj i5 <| aj u22 <| aj a22 <| aj s22 <| aj z22 <| aj q22 <| aj n22 <| aj u23 <| aj a23 <| aj s23 <| aj z23 <| aj n23 <| aj u24 <| aj a24 <| aj s24 <| aj z24 <| aj n24 <| aj u25 <| aj a25 <| aj s25 <| aj z25 <| aj q25 <| aj n25 <| aj a27 <| aj s27 <| aj z27 <| aj i27 <| aj n27 <| aj p27 <| aj ff27 <| aj d27 <| aj u29 <| aj a29 <| aj s29 <| aj z29 <| aj q29 <| aj n29 <| aj a31 <| aj s31 <| aj z31 <| aj i31 <| aj n31 <| aj p31 <| aj ff31 <| aj d31 <| aj a56 <| aj s56 <| aj z56 <| aj i56 <| aj n56 <| aj p56 <| aj ff56 <| aj d56 <| aj u97 <| aj a97 <| aj s97 <| aj z97 <| aj q97 <| aj i97 <| aj n97 <| aj a99 <| aj s99 <| aj z99 <| aj i99 <| aj n99 <| aj p99 <| aj ff99 <| d99
theorem tI {h0 : Hp} (ok : h0.t.Sized h0.n) : dl Tryz.abEnv 9 [] h0 (.bool true) := ret_orc rfl ⟨rfl, Gr.refl ok⟩
theorem tR {h0 : Hp} (ok : h0.t.Sized h0.n) {vB vY e0 e1 w0 w1 w2 : Value} {B : List Int} (hB : SlW h0 .u8 vB B) (fY : Fl vY) (q0 : Fl e0) (q1 : Fl e1) (q2 : Fl w0) (q3 : Fl w1) (q4 : Fl w2) :
 Ret Tryz.abEnv 10 [.agg ⟨[vB, e0, e1, w0, w1, w2, vY]⟩] h0 fun r h' => Gr h0 h' ∧ ∃ γ vx vy va, r = bS γ vx vy va ∧ Good γ ∧ bw h' vx vy va γ ∧ ∀ c, (av vx c ∨ av vy c ∨ av va c) → h0.n ≤ c := by
 have S := St.init (M := NoM) ok
 have mn : min (B.length : Int) 60 = ((min B.length 60 : Nat) : Int) := by omega
 obtain ⟨vB', hsl, sB, bB⟩ := hB.low (kd' := .i64) (n := min B.length 60) Tryz.u22 Tryz.s5 (Nat.min_le_left _ _)
 have fB := hB.sl.fl
 have fB' := sB.fl
 refine aq (n := 15) (rs := [.cell 2 31]) rfl Tryz.e10 rfl rfl rfl (lbt rfl) ?_
 simp only [BS, Nat.reduceLT]
 refine ao (bn (by intro x e; cases e)) S ?_; clear S; intro h b1 S n_b1; simp only [ae] at S
 simp only [BS, Tryz.FFs810]
 refine ao aH S ?_; clear S; intro h b2 S n_b2
 simp only [BS, LB, Nat.reduceLT, Nat.reduceEqDiff, Nat.reduceAdd, Option.map_some, Option.map_none, Tryz.FFs810, hB.sl.lenq, mn, hsl, fB', S.ld (b := b1) (o := 0) (by repeat constructor) rfl]
 refine ao (bn (by intro x e; cases e)) S ?_; clear S; intro h bd S n_bd; simp only [ae] at S
 have hB' : aG h 1 (encI .u8) vB' (B.take (min B.length 60)) := sB.gr S.gr
 have nB : ¬ av vB' bd := fun hc => by have := sB.lt ok hc; omega
 have lb' : (B.take (min B.length 60)).length < 1000000 := by rw [List.length_take]; omega
 simp only [BS, LB, Nat.reduceLT, Nat.reduceEqDiff]
 have k0 := S.fr.n
 have ap := S.apart
 simp only [keys, List.map_cons, List.map_nil, List.filterMap_nil, List.append_nil, List.nodup_cons, List.mem_cons, List.not_mem_nil, or_false, not_or] at ap
 have lt2 := (S.row (b := b2) m1).lt S.ok
 refine step_ret (raw_ok S.ok (S.row m0) ⟨hB', nB, lb', by omega⟩) ?_
 rintro v h ⟨f, γ, vx, vy, va, rfl, hγ, ga, hz⟩
 replace S := S.drop1.step f (fun c hc => by subst hc; exact .inr n_bd) (fun c hc e => by simp [keys] at hc; omega)
 have fx := ga.X.fl
 have fy := ga.Y.fl
 have fa := ga.A.fl
 simp only [BS, LB, Nat.reduceLT, Nat.reduceEqDiff, bS]
 refine aa (S.store (i := 0) rfl Tryz.s31 (by intro x e; cases e) rfl (by simp only [ae, List.all_cons, List.all_nil, fx.2.1, fy.2.1, fa.2.1, Bool.and_true]; rfl) (lbt rfl) ono) ?_
 clear S; rintro h ⟨S, mo⟩
 simp only [List.set_cons_zero, List.set_cons_succ, ae, lay, List.take, List.drop, List.nil_append, List.cons_append, List.append_nil, List.length_cons, List.length_nil, Nat.reduceAdd, Nat.add_zero] at S
 simp only [BS, an]
 refine (h9 (by decide) (by simp only [bc, ah, Nat.reduceEqDiff, reduceIte]; exact cG Tryz.a31 Tryz.s31 (S.lds (b := b2) (o := 0) (n := 4) m0 (lbt rfl)))).2 (ik.2 ?_)
 exact ⟨S.gr, γ, vx, vy, va, rfl, hγ, ga.mo mo (fun c hc e => by have := hz c hc; omega), fun c hc => Nat.le_trans k0 (hz c hc)⟩
end Go.Ab

end
section
namespace Go.Ab
open Go.Proofs
set_option maxRecDepth 10000
open Tryz in
def Tryz.FFsh250 := aj a1 <| aj s1 <| aj z1 <| aj n1 <| aj u2 <| aj a2 <| aj s2 <| aj z2 <| aj i2 <| aj u3 <| aj a3 <| aj s3 <| aj z3 <| aj i3 <| aj u4 <| aj a4 <| aj s4 <| aj z4 <| aj n4 <| aj u5 <| aj a5 <| aj s5 <| aj z5 <| aj i5 <| aj u6 <| aj a6 <| aj s6 <| aj z6 <| aj i6 <| aj a7 <| aj s7 <| aj z7 <| aj i7 <| aj n7 <| aj p7 <| aj ff7 <| aj d7 <| aj a8 <| aj s8 <| aj z8 <| aj i8 <| aj n8 <| aj p8 <| aj ff8 <| aj d8 <| aj u9 <| aj a9 <| aj s9 <| aj z9 <| aj n9 <| aj u22 <| aj a22 <| aj s22 <| aj z22 <| aj q22 <| aj n22 <| aj u23 <| aj a23 <| aj s23 <| aj z23 <| aj n23 <| aj u24 <| aj a24 <| aj s24 <| aj z24 <| aj n24 <| aj u25 <| aj a25 <| aj s25 <| aj z25 <| aj q25 <| aj n25 <| aj a27 <| aj s27 <| aj z27 <| aj i27 <| aj n27 <| aj p27 <| aj ff27 <| aj d27 <| aj u29 <| aj a29 <| aj s29 <| aj z29 <| aj q29 <| aj n29 <| aj a31 <| aj s31 <| aj z31 <| aj i31 <| aj n31 <| aj p31 <| aj ff31 <| aj d31 <| aj u38 <| aj a38 <| aj s38 <| aj z38 <| aj q38 <| aj n38 <| aj a56 <| aj s56 <| aj z56 <| aj i56 <| aj n56 <| aj p56 <| aj ff56 <| aj d56 <| aj u97 <| aj a97 <| aj s97 <| aj z97 <| aj q97 <| aj i97 <| aj n97 <| aj a99 <| aj s99 <| aj z99 <| aj i99 <| aj n99 <| aj p99 <| aj ff99 <| d99
open Tryz in
def Tryz.FFsh251 := aj a1 <| aj s1 <| aj z1 <| aj n1 <| aj u2 <| aj a2 <| aj s2 <| aj z2 <| aj i2 <| aj u3 <| aj a3 <| aj s3 <| aj z3 <| aj i3 <| aj u4 <| aj a4 <| aj s4 <| aj z4 <| aj n4 <| aj u5 <| aj a5 <| aj s5 <| aj z5 <| aj i5 <| aj u6 <| aj a6 <| aj s6 <| aj z6 <| aj i6 <| aj a7 <| aj s7 <| aj z7 <| aj i7 <| aj n7 <| aj p7 <| aj ff7 <| aj d7 <| aj a8 <| aj s8 <| aj z8 <| aj i8 <| aj n8 <| aj p8 <| aj ff8 <| aj d8 <| aj u9 <| aj a9 <| aj s9 <| aj z9 <| aj n9 <| aj u10 <| aj a10 <| aj s10 <| aj z10 <| aj n10 <| aj u11 <| aj a11 <| aj s11 <| aj z11 <| aj n11 <| aj u12 <| aj a12 <| aj s12 <| aj z12 <| aj i12 <| aj a13 <| aj s13 <| aj z13 <| aj i13 <| aj n13 <| aj p13 <| aj ff13 <| aj d13 <| aj a14 <| aj s14 <| aj z14 <| aj i14 <| aj n14 <| aj p14 <| aj ff14 <| aj d14 <| aj u15 <| aj a15 <| aj s15 <| aj z15 <| aj q15 <| aj i15 <| aj n15 <| aj u16 <| aj a16 <| aj s16 <| aj z16 <| aj q16 <| aj i16 <| aj n16 <| aj u17 <| aj a17 <| aj s17 <| aj z17 <| aj q17 <| aj i17 <| aj n17 <| aj a18 <| aj s18 <| aj z18 <| aj i18 <| aj n18 <| aj p18 <| aj ff18 <| aj d18 <| aj u22 <| aj a22 <| aj s22 <| aj z22 <| aj q22 <| aj n22 <| aj u23 <| aj a23 <| aj s23 <| aj z23 <| aj n23 <| aj u24 <| aj a24 <| aj s24 <| aj z24 <| aj n24 <| aj u25 <| aj a25 <| aj s25 <| aj z25 <| aj q25 <| aj n25 <| aj a27 <| aj s27 <| aj z27 <| aj i27 <| aj n27 <| aj p27 <| aj ff27 <| aj d27 <| aj u29 <| aj a29 <| aj s29 <| aj z29 <| aj q29 <| aj n29 <| aj a31 <| aj s31 <| aj z31 <| aj i31 <| aj n31 <| aj p31 <| aj ff31 <| aj d31 <| aj u38 <| aj a38 <| aj s38 <| aj z38 <| aj q38 <| aj n38 <| aj a56 <| aj s56 <| aj z56 <| aj i56 <| aj n56 <| aj p56 <| aj ff56 <| aj d56 <| aj u156 <| aj a156 <| aj s156 <| aj z156 <| aj q156 <| aj i156 <| aj n156 <| aj u231 <| aj a231 <| aj s231 <| aj z231 <| aj i231 <| aj u283 <| aj a283 <| aj s283 <| aj z283 <| aj i283 <| aj a300 <| aj s300 <| aj z300 <| aj i300 <| aj n300 <| aj p300 <| aj ff300 <| aj d300 <| aj u301 <| aj a301 <| aj s301 <| aj z301 <| aj n301 <| aj a303 <| aj s303 <| aj z303 <| aj i303 <| aj n303 <| aj u305 <| aj a305 <| aj s305 <| aj z305 <| aj i305 <| aj a306 <| aj s306 <| aj z306 <| aj n306 <| aj u307 <| aj a307 <| aj s307 <| aj z307 <| aj i307 <| aj u308 <| aj a308 <| aj s308 <| aj z308 <| aj i308 <| aj a310 <| aj s310 <| aj z310 <| aj i310 <| aj n310 <| aj p310 <| aj ff310 <| d310
theorem u_neg {k : IntKind} {n : Int} : unP .neg (.int k n) = some (.int k (aw k (0 - n))) := rfl
theorem kR {h : Hp} {b md : Nat} {x : Value} (r : Row h b [x] md) : aQ h 1 (.slice (some ⟨b, 0, none⟩) 1 1) = some (1, [x]) := by
 simp only [aQ]
 rw [r.load (o := 0) (n := 1 * 1) (lbt rfl)]; rfl
theorem te {h0 : Hp} (ok : h0.t.Sized h0.n) {vB vY e0 e1 w1 w2 : Value} {w0 : Nat} {B : List Int} (hB : SlW h0 .u8 vB B) (fY : Fl vY) (q0 : Fl e0) (q1 : Fl e1) (q3 : Fl w1) (q4 : Fl w2) {γ : Gra} (hγ : Good γ) {vx vy va : Value} (ga : bw h0 vx vy va γ) :
 Ret Tryz.abEnv 50 [.agg ⟨[vB, e0, e1, .int .u8 (w0 : Nat), w1, w2, vY]⟩, bS γ vx vy va] h0 fun r h' => Gr h0 h' ∧ ∃ als, aG h' 1 jz r als ∧ (als = [] ∨ als.length = γ.arcs.length) ∧ ∀ c, av r c → h0.n ≤ c := by
 have S := St.init (M := NoM) ok
 have mn : min (B.length : Int) 60 = ((min B.length 60 : Nat) : Int) := by omega
 obtain ⟨vB', hsl, sB, bB⟩ := hB.low (kd' := .i64) (n := min B.length 60) Tryz.u22 Tryz.s5 (Nat.min_le_left _ _)
 have fB := hB.sl.fl
 have fB' := sB.fl
 have fx := ga.X.fl
 have fy := ga.Y.fl
 have fa := ga.A.fl
 have many := hγ.many
 have n3 : (3 : Int) ≠ 0 := by decide
 refine aq (n := 41) (rs := [.tmp 4]) rfl Tryz.e50 rfl rfl rfl (lbt rfl) ?_
 simp only [BS, Nat.reduceLT]
 refine ao (bn (by intro x e; cases e)) S ?_; clear S; intro h b2 S n_b2; simp only [ae] at S
 simp only [BS, Nat.reduceLT, Nat.reduceEqDiff, if_false, bS]
 refine ao (bn (by intro x e; cases e)) S ?_; clear S; intro h b3 S n_b3; simp only [ae] at S
 by_cases hc : (0 : Int) < (w0 : Int).tmod 3
 · simp only [BS, LB, an, Nat.reduceLT, Nat.reduceEqDiff, Int.reduceToNat, Int.reduceLE, Int.reduceLT, Int.cast_ofNat_Int, Tryz.FFsh250, fV n3, hc, S.ld (b := b2) (o := 3) (by repeat constructor) rfl]
   exact ⟨S.gr, [], .inl ⟨rfl, rfl⟩, .inl rfl, fun c hc => hc.elim⟩
 · simp only [BS, LB, Nat.reduceLT, Nat.reduceEqDiff, Int.reduceToNat, Int.reduceLE, Int.reduceLT, Int.cast_ofNat_Int, Tryz.FFsh250, fV n3, hc, S.ld (b := b2) (o := 3) (by repeat constructor) rfl]
   refine az (aD rfl) (q := 8200) (ps := []) (by kernel_rfl) ?_
   simp only [BS, LB, cls, Nat.reduceLT, Nat.reduceEqDiff, Nat.reduceAdd, Nat.reducePow, Nat.reduceDiv, Nat.reduceMod, Nat.reduceLeDiff, Int.reduceToNat, Int.reduceLE, Int.reduceLT, Int.cast_ofNat_Int, Tryz.FFsh250, S.ld (b := b2) (o := 3) (by repeat constructor) rfl, S.ld (b := b2) (o := 0) (by repeat constructor) rfl]
   refine bM (bu (by first | exact Tryz.u22 | exact Tryz.u25 | exact Tryz.u29 | exact Tryz.u38) (by first | exact Tryz.e2E | exact Tryz.e4E | exact Tryz.e5E | exact Tryz.e56E) (by decide) (by first | rfl | exact fillE )) S ?_; clear S; intro h bs S n_bs e_bs; simp only [aO, aT, ae, List.cons_append, List.nil_append, List.append_nil, List.set_cons_zero, List.set_cons_succ, Nat.reduceMul, Nat.reduceAdd, Nat.zero_mul, Nat.zero_add, Nat.mul_one, Nat.one_mul] at S
   simp only [BS, LB, cls, Nat.reduceLT, Nat.reduceEqDiff, Nat.reduceAdd, Nat.reducePow, Nat.reduceDiv, Nat.reduceMod, Nat.reduceLeDiff, Option.map_some, Option.map_none, Tryz.FFsh250, hB.sl.lenq, mn, hsl, S.ld (b := b2) (o := 3) (by repeat constructor) rfl, S.ld (b := b2) (o := 0) (by repeat constructor) rfl]
   have sB' : aG h 1 (encI .u8) vB' (B.take (min B.length 60)) := sB.gr S.gr
   have lb' : (B.take (min B.length 60)).length ≤ 60 := by rw [List.length_take]; omega
   refine hQ (S.cloneSl (enc := encI .u8) (xs := [(w0 : Int)]) (ys := B.take (min B.length 60)) Tryz.u22 Tryz.e5E (by decide) Tryz.n22 sB' (dH .u8) (by decide) (by simp only [List.length_cons, List.length_nil]; omega) (S.row (b := bs) m0)) ?_
   have kS := S.fr.n
   clear S; rintro h vC ⟨S, g, sC, hC⟩
   have fC := sC.fl
   have l3 := S.row (b := b3) m1
   have lt3 := l3.lt S.ok
   have Sg := S.gr
   replace S := St.init (M := NoM) S.ok
   simp only [BS, LB, cls, Nat.reduceLT, Nat.reduceEqDiff, Nat.reduceAdd, Nat.reducePow, Nat.reduceDiv, Nat.reduceMod, Nat.reduceLeDiff, Tryz.FFsh250, fC]
   refine bM (bn (by intro x e; cases e)) S ?_; clear S; intro h bd S n_bd e_bd; simp only [ae] at S
   have hC' := sC.gr S.gr
   replace l3 := l3.gr S.gr
   have nC : ¬ av vC bd := fun hc => by have := sC.lt Sg.ok hc; omega
   have kg := Sg.n
   have gE := Sg.trans S.gr
   have kE := gE.n
   have okE := S.ok
   have rd := S.row (b := bd) m0
   have D0 : DrAt h bd vC ([(w0 : Int)] ++ B.take (min B.length 60)) 0 := ⟨hC', nC, by simp; omega, by omega⟩
   have n3d : ¬ b3 = bd := fun e => by omega
   clear S
   rename Hp => hE
   have S := St.init1 okE (o := .row _ 1) rd
   replace S := S.nilG (k := 1)
   simp only [BS, LB, cls, Nat.reduceLT, Nat.reduceEqDiff, Nat.reduceAdd, Nat.reducePow, Nat.reduceDiv, Nat.reduceMod, Nat.reduceLeDiff]
   refine aW (fun (i : Nat) ρ h => i ≤ γ.arcs.length ∧ ∃ (a : Nat) (vR : Value) (als : List Bool), a ≤ i ∧ als.length = i ∧ St (· = bd) hE h [(bd, .row [vC, .int .i64 (a : Nat)] 1)] [(vR, 1, als.flatMap jz)] ∧ ρ 3 = ptrTo b3 ∧ ρ 5 = ptrTo bd ∧ ρ 6 = vR ∧ ρ 7 = .int .i64 i) (fun i => γ.arcs.length - i) ?_ 0 _ _ ?_
   · clear S
     intro i ih ρ h ⟨hi, a, vR, als, ha, lA, S, r3, r5, r6, r7⟩
     have w : aw .i64 ((i : Int) + 1) = ((i + 1 : Nat) : Int) := by rw [wrap64] <;> omega
     have lb3 := S.old (l3.load1 (o := 3) rfl) n3d
     by_cases hlt : i < γ.arcs.length
     · simp only [BS, LB, Nat.reduceLT, Nat.reduceEqDiff, Tryz.FFsh250, r3, r5, r6, r7, ga.A.lenq, aL, hlt, lb3]
       refine step_ret (dR (n := 5) (a := a) S.ok (S.row m0) (D0.mo S.fr (by omega)) (by omega) (by omega)) ?_
       rintro v h ⟨f, r0, a0, rfl, hr0, ha0, R⟩
       replace S := S.call1 (i := 0) rfl f (o' := .row _ _) R
       simp only [List.set_cons_zero, List.set_cons_succ] at S
       simp only [BS, LB, Nat.reduceLT, Nat.reduceEqDiff]
       refine ao (bu (by first | exact Tryz.u22 | exact Tryz.u25 | exact Tryz.u29 | exact Tryz.u38) (by first | exact Tryz.e2E | exact Tryz.e4E | exact Tryz.e5E | exact Tryz.e56E) (by decide) (by first | rfl | exact fillE )) S ?_; clear S; intro h bt S n_bt; simp only [aO, aT, ae, List.cons_append, List.nil_append, List.append_nil, List.set_cons_zero, List.set_cons_succ, Nat.reduceMul, Nat.reduceAdd, Nat.zero_mul, Nat.zero_add, Nat.mul_one, Nat.one_mul] at S
       simp only [BS, LB, Nat.reduceLT, Nat.reduceEqDiff]
       have src := kR (S.row (b := bt) m0)
       replace S := S.drop1
       refine fh (S.grow (j := 0) (m := 1) (new := [.bool (decide ((0 : Int) < (r0 : Int)))]) rfl Tryz.u38 Tryz.e4E (by decide) Tryz.n38 src rfl (by decide) rfl (by rw [aK ja]; simp; omega)) ?_
       clear S src; rintro h vR' S
       simp only [List.set_cons_zero] at S
       simp only [BS, LB, Nat.reduceLT, Nat.reduceEqDiff, r7, w]
       exact ih (i + 1) _ _ (by omega) ⟨by omega, a0, vR', als ++ [decide ((0 : Int) < (r0 : Int))], by omega, by simp [lA], by rw [List.flatMap_append]; exact S, by simp [ac, r3, ah], by simp [ac, r5, ah], by simp [ac], by simp [ac]⟩
     · simp only [BS, LB, an, Nat.reduceLT, Nat.reduceEqDiff, Tryz.FFsh250, r3, r6, r7, ga.A.lenq, aL, hlt, lb3]
       exact ⟨((gE.fr (M := NoM)).trans S.fr (fun c e => .inr (by omega))).gr, als, (S.gown _ m0).1.sl rfl ja (by decide), .inr (by omega), fun c hc => ((S.gblk m0 hc).1).elim (fun h => by omega) (fun h => by omega)⟩
   · exact ⟨Nat.zero_le _, 0, _, [], Nat.le_refl _, rfl, S, by simp [ac, ah], by simp [ac, ah], by simp [ac], by simp [ac]⟩
theorem pi13_ok {h0 : Hp} (ok : h0.t.Sized h0.n) {vB vY e0 e1 w0 : Value} {w1 w2 : Nat} (fB : Fl vB) (fY : Fl vY) (q0 : Fl e0) (q1 : Fl e1) (q3 : Fl w0) (l1 : w1 ≤ 255) (l2 : w2 ≤ 255) {γ : Gra} (hγ : Good γ) {vx vy va : Value} (ga : bw h0 vx vy va γ) :
 Ret Tryz.abEnv 51 [.agg ⟨[vB, e0, e1, w0, .int .u8 (w1 : Nat), .int .u8 (w2 : Nat), vY]⟩, bS γ vx vy va] h0 fun r h' => Gr h0 h' ∧ ∃ pis, aG h' 1 (encI .i64) r pis ∧ (pis = [] ∨ pis.length = γ.nodes) ∧ ∀ c, av r c → h0.n ≤ c := by
 have S := St.init (M := NoM) ok
 have fx := ga.X.fl
 have fy := ga.Y.fl
 have fa := ga.A.fl
 have n1 := hγ.n1
 have n2 := hγ.n2
 have fr := jO
 have nz : (γ.nodes : Int) ≠ 0 := by omega
 have tm : (w1 : Int).tmod (γ.nodes : Int) = ((w1 % γ.nodes : Nat) : Int) := by rw [Int.tmod_eq_emod_of_nonneg (by omega)]; exact (Int.natCast_emod _ _).symm
 have wc1 : aw .i64 (w1 : Int) = (w1 : Int) := by rw [wrap64] <;> omega
 have md : w1 % γ.nodes < γ.nodes := Nat.mod_lt _ (by omega)
 refine aq (n := 104) (rs := [.tmp 4]) rfl Tryz.e51 rfl rfl rfl (lbt rfl) ?_
 simp only [BS, Nat.reduceLT]
 refine ao (bn (by intro x e; cases e)) S ?_; clear S; intro h b2 S n_b2; simp only [ae] at S
 simp only [BS, Nat.reduceLT, Nat.reduceEqDiff, if_false, bS]
 refine ao (bn (by intro x e; cases e)) S ?_; clear S; intro h b3 S n_b3; simp only [ae] at S
 simp only [BS, LB, gH, bG, gM, Nat.reduceLT, Nat.reduceEqDiff, Nat.reduceAdd, Int.reduceToNat, Int.reduceLE, Int.reduceLT, Int.cast_ofNat_Int, Tryz.FFsh251, fV nz, tm, wc1, S.ld (b := b2) (o := 4) (by repeat constructor) rfl, S.ld (b := b2) (o := 5) (by repeat constructor) rfl, S.ld (b := b3) (o := 0) (by repeat constructor) rfl]
 generalize w1 % γ.nodes = v at md
 refine az (aD rfl) (q := 0) (ps := [(3, 4), (1, 4)]) (by kernel_rfl) ?_
 have lt3 := (S.row (b := b3) m0).lt S.ok
 simp only [BS, LB, cls, Nat.reduceLT, Nat.reduceEqDiff, Nat.reducePow, Nat.reduceDiv, Nat.reduceMod, Nat.reduceLeDiff, Tryz.FFsh251, List.drop_zero, List.take_succ_cons, List.take_zero, S.lds (b := b3) (o := 0) (n := 4) (by repeat constructor) (lbt rfl)]
 have tk : Ret Tryz.abEnv 109 [bS γ vx vy va] h _ := turned_ok S.ok hγ (ga.gr S.gr)
 unfold bS at tk
 refine di tk ?_
 clear tk
 rintro r h ⟨g, ux, uy, ua, rfl, gt⟩
 have v1 := aY g lt3
 replace S := S.call g
 simp only [BS, LB, cls, Nat.reduceLT, Nat.reduceEqDiff, Nat.reduceAdd, Nat.reducePow, Nat.reduceDiv, Nat.reduceMod, Nat.reduceLeDiff]
 have lt3' := (S.row (b := b3) m0).lt S.ok
 have lk : Ret Tryz.abEnv 108 [bS (jG γ) ux uy ua, .slice none 0 0, .int .i64 (v : Nat)] _ _ := oD S.ok (good_turn hγ) gt md
 refine di lk ?_
 clear lk
 rintro r h ⟨g, lt, hlt, sT, hT⟩
 have v2 := aY g lt3'
 replace S := S.call g
 obtain ⟨ta, tn, tc, rfl⟩ := sT.form
 simp only [BS, LB, cls, Nat.reduceLT, Nat.reduceEqDiff, Nat.reduceAdd, Nat.reducePow, Nat.reduceDiv, Nat.reduceMod, Nat.reduceLeDiff, Tryz.FFsh251, List.drop_zero, List.take_succ_cons, List.take_zero, S.lds (b := b3) (o := 0) (n := 4) (by repeat constructor) (lbt rfl)]
 have lk : Ret Tryz.abEnv 108 [bS γ vx vy va, .slice none 0 0, .int .i64 (v : Nat)] h _ := oD S.ok hγ (ga.gr S.gr) md
 unfold bS at lk
 refine di lk ?_
 clear lk
 rintro r h ⟨g, lf, hlf, sF, hF⟩
 replace S := S.call g
 replace sT := sT.gr g
 obtain ⟨fa', fn', fc', rfl⟩ := sF.form
 simp only [BS, LB, cls, Nat.reduceLT, Nat.reduceEqDiff, Nat.reduceAdd, Nat.reducePow, Nat.reduceDiv, Nat.reduceMod, Nat.reduceLeDiff]
 refine ⟨by simp only [cq, cC, bV, cK, cg, ne_eq, not_false_eq_true, cJ, da, cu, cj, dr, dW, bc, Nat.reduceLT, Nat.reduceEqDiff, reduceIte, Bool.and_true, ah, fb v1, fb v2], ?_⟩
 clear v1 v2 gt g lt3 lt3'
 generalize hVT : Value.slice ta tn tc = vT at sT
 generalize hVF : Value.slice fa' fn' fc' = vF at sF
 have gE := S.gr
 have okE := S.ok
 have rw2 := S.row (b := b2) m1
 have rw3 := S.row (b := b3) m0
 clear S
 rename Hp => hE
 have S := (St.init (M := NoM) okE).nilG (k := 1)
 have mq : ∃ k : Nat, k < 5 ∧ (aw .u8 ((w1 : Int).tdiv 16)).tmod 5 = (k : Int) := by
  have e1 : (w1 : Int).tdiv 16 = ((w1 / 16 : Nat) : Int) := by rw [Int.tdiv_eq_ediv_of_nonneg (by omega)]; exact (Int.natCast_ediv _ _).symm
  have e2 : aw .u8 ((w1 / 16 : Nat) : Int) = ((w1 / 16 : Nat) : Int) := by
   have : w1 / 16 < 256 := by omega
   show aw .u8 (.ofNat (w1 / 16)) = _
   unfold aw
   simp only [Ab.hf, sgn, pw]
   have hb : Nat.blt (w1 / 16) 256 = true := by rw [Nat.blt_eq]; exact this
   rw [hb]; rfl
  rw [e1, e2, Int.tmod_eq_emod_of_nonneg (by omega)]
  exact ⟨w1 / 16 % 5, Nat.mod_lt _ (by omega), (Int.natCast_emod _ _).symm⟩
 obtain ⟨k, hk5, hk⟩ := mq
 have n16 : (16 : Int) ≠ 0 := by decide
 have n5 : (5 : Int) ≠ 0 := by decide
 have n20 : (20 : Int) ≠ 0 := by decide
 refine aW (fun (i : Nat) ρ h => i ≤ γ.nodes ∧ ∃ (vR : Value) (l : List Int) (more : Int), l.length = i ∧ St NoM hE h [] [(vR, 1, ints l)] ∧ ρ 2 = ptrTo b2 ∧ ρ 3 = ptrTo b3 ∧ ρ 6 = .int .i64 more ∧ ρ 7 = vR ∧ ρ 8 = vT ∧ ρ 9 = vF ∧ ρ 10 = .int .i64 i) (fun i => γ.nodes - i) ?_ 0 _ _ ?_
 · clear S
   intro i ih ρ h ⟨hi, vR, l, more, ll, S, r2, r3, r6, r7, r8, r9, r10⟩
   have w : aw .i64 ((i : Int) + 1) = ((i + 1 : Nat) : Int) := by rw [wrap64] <;> omega
   have l4 := S.old (rw2.load1 (o := 4) rfl) (fun h => h)
   have l5 := S.old (rw2.load1 (o := 5) rfl) (fun h => h)
   have l0 := S.old (rw3.load1 (o := 0) rfl) (fun h => h)
   by_cases hlt : i < γ.nodes
   · have hiT : i < ((List.range γ.nodes).map lt).length := by simpa using hlt
     have hiF : i < ((List.range γ.nodes).map lf).length := by simpa using hlt
     obtain ⟨c1, o1, x1, y1⟩ := (sT.gr S.gr).ix (kd := .i64) gn hiT
     obtain ⟨c2, o2, x2, y2⟩ := (sF.gr S.gr).ix (kd := .i64) gn hiF
     have hz : ∀ z : Int, ((ints l).length + [Value.int .i64 z].length) * (8 + 1) ≤ 70368744177664 := fun z => by rw [hZ]; simp; omega
     match k, hk5, hk with
     | 0, _, hk =>
       have hk' : (aw .u8 ((w1 : Int).tdiv 16)).tmod 5 = (0 : Int) := hk
       simp only [BS, LB, an, Nat.reduceLT, Nat.reduceEqDiff, Nat.reduceAdd, Int.reduceToNat, Int.reduceLE, Int.reduceLT, Int.cast_ofNat_Int, Tryz.FFsh251, r2, r3, r10, l0, l4, aL, hlt, jb n16, fV n5, hk']
       exact ⟨gE.trans S.gr, [], .inl ⟨rfl, rfl⟩, .inl rfl, fun c hc => hc.elim⟩
     | 1, _, hk =>
       have hk' : (aw .u8 ((w1 : Int).tdiv 16)).tmod 5 = (1 : Int) := hk
       simp only [BS, LB, Nat.reduceLT, Nat.reduceEqDiff, Nat.reduceAdd, Int.reduceToNat, Int.reduceLE, Int.reduceLT, Int.cast_ofNat_Int, Tryz.FFsh251, r2, r3, r7, r8, r10, l0, l4, aL, hlt, jb n16, fV n5, hk', Int.reduceEq, x1, y1, cL]
       refine ao (bu (by first | exact Tryz.u22 | exact Tryz.u25 | exact Tryz.u29 | exact Tryz.u38) (by first | exact Tryz.e2E | exact Tryz.e4E | exact Tryz.e5E | exact Tryz.e56E) (by decide) (by first | rfl | exact fillE )) S ?_; clear S; intro h bt S n_bt; simp only [aO, aT, ae, List.cons_append, List.nil_append, List.append_nil, List.set_cons_zero, List.set_cons_succ, Nat.reduceMul, Nat.reduceAdd, Nat.zero_mul, Nat.zero_add, Nat.mul_one, Nat.one_mul] at S
       simp only [BS, LB, Nat.reduceLT, Nat.reduceEqDiff]
       have src := kR (S.row (b := bt) m0)
       replace S := S.drop1
       refine fh (S.grow (j := 0) (m := 1) rfl Tryz.u25 Tryz.e2E (by decide) Tryz.n25 src rfl (by decide) rfl (hz _)) ?_
       clear S src; rintro h vR' S
       simp only [List.set_cons_zero] at S
       simp only [BS, LB, Nat.reduceLT, Nat.reduceEqDiff, r10, w]
       exact ih (i + 1) _ _ (by omega) ⟨by omega, vR', l ++ [_], more, by simp [ll], by rw [iU]; exact S, by simp [ac, r2, ah], by simp [ac, r3, ah], by simp [ac, r6], by simp [ac], by simp [ac, r8], by simp [ac, r9], by simp [ac]⟩
     | 2, _, hk =>
       have hk' : (aw .u8 ((w1 : Int).tdiv 16)).tmod 5 = (2 : Int) := hk
       simp only [BS, LB, Nat.reduceLT, Nat.reduceEqDiff, Nat.reduceAdd, Int.reduceToNat, Int.reduceLE, Int.reduceLT, Int.cast_ofNat_Int, Tryz.FFsh251, r2, r3, r10, l0, l4, aL, hlt, jb n16, fV n5, hk', Int.reduceEq]
       refine az (aD rfl) (q := 16384) (ps := []) (by kernel_rfl) ?_
       simp only [BS, LB, gH, bG, gM, cls, Nat.reduceLT, Nat.reduceEqDiff, Nat.reduceAdd, Nat.reducePow, Nat.reduceDiv, Nat.reduceMod, Nat.reduceLeDiff, Int.reduceToNat, Int.reduceLE, Int.reduceLT, Int.cast_ofNat_Int, Tryz.FFsh251, r2, r6, r7, r8, r10, x1, y1, cL, l5, fV n20]
       refine bM (bu (by first | exact Tryz.u22 | exact Tryz.u25 | exact Tryz.u29 | exact Tryz.u38) (by first | exact Tryz.e2E | exact Tryz.e4E | exact Tryz.e5E | exact Tryz.e56E) (by decide) (by first | rfl | exact fillE )) S ?_; clear S; intro h bt S n_bt e_bt; simp only [aO, aT, ae, List.cons_append, List.nil_append, List.append_nil, List.set_cons_zero, List.set_cons_succ, Nat.reduceMul, Nat.reduceAdd, Nat.zero_mul, Nat.zero_add, Nat.mul_one, Nat.one_mul] at S
       simp only [BS, LB, cls, Nat.reduceLT, Nat.reduceEqDiff, Nat.reduceAdd, Nat.reducePow, Nat.reduceDiv, Nat.reduceMod, Nat.reduceLeDiff, fV n20]
       have src := kR (S.row (b := bt) m0)
       replace S := S.drop1
       refine hQ (S.grow (j := 0) (m := 1) rfl Tryz.u25 Tryz.e2E (by decide) Tryz.n25 src rfl (by decide) rfl (hz _)) ?_
       clear S src; rintro h vR' S
       simp only [List.set_cons_zero] at S
       simp only [BS, LB, cls, Nat.reduceLT, Nat.reduceEqDiff, Nat.reduceAdd, Nat.reducePow, Nat.reduceDiv, Nat.reduceMod, Nat.reduceLeDiff, r10, w]
       exact ih (i + 1) _ _ (by omega) ⟨by omega, vR', l ++ [_], more, by simp [ll], by rw [iU]; exact S, by simp [ac, r2, ah], by simp [ac, r3, ah], by simp [ac, r6], by simp [ac], by simp [ac, r8], by simp [ac, r9], by simp [ac]⟩
     | 3, _, hk =>
       have hk' : (aw .u8 ((w1 : Int).tdiv 16)).tmod 5 = (3 : Int) := hk
       simp only [BS, LB, Nat.reduceLT, Nat.reduceEqDiff, Nat.reduceAdd, Int.reduceToNat, Int.reduceLE, Int.reduceLT, Int.cast_ofNat_Int, Tryz.FFsh251, r2, r3, r10, l0, l4, aL, hlt, jb n16, fV n5, hk', Int.reduceEq]
       refine az (aD rfl) (q := 16384) (ps := []) (by kernel_rfl) ?_
       simp only [BS, LB, gH, bG, gM, cls, Nat.reduceLT, Nat.reduceEqDiff, Nat.reduceAdd, Nat.reducePow, Nat.reduceDiv, Nat.reduceMod, Nat.reduceLeDiff, Int.reduceToNat, Int.reduceLE, Int.reduceLT, Int.cast_ofNat_Int, Tryz.FFsh251, r2, r6, r7, r9, r10, x2, y2, cL, l5, u_neg]
       refine bM (bu (by first | exact Tryz.u22 | exact Tryz.u25 | exact Tryz.u29 | exact Tryz.u38) (by first | exact Tryz.e2E | exact Tryz.e4E | exact Tryz.e5E | exact Tryz.e56E) (by decide) (by first | rfl | exact fillE )) S ?_; clear S; intro h bt S n_bt e_bt; simp only [aO, aT, ae, List.cons_append, List.nil_append, List.append_nil, List.set_cons_zero, List.set_cons_succ, Nat.reduceMul, Nat.reduceAdd, Nat.zero_mul, Nat.zero_add, Nat.mul_one, Nat.one_mul] at S
       simp only [BS, LB, cls, Nat.reduceLT, Nat.reduceEqDiff, Nat.reduceAdd, Nat.reducePow, Nat.reduceDiv, Nat.reduceMod, Nat.reduceLeDiff]
       have src := kR (S.row (b := bt) m0)
       replace S := S.drop1
       refine hQ (S.grow (j := 0) (m := 1) rfl Tryz.u25 Tryz.e2E (by decide) Tryz.n25 src rfl (by decide) rfl (hz _)) ?_
       clear S src; rintro h vR' S
       simp only [List.set_cons_zero] at S
       simp only [BS, LB, cls, Nat.reduceLT, Nat.reduceEqDiff, Nat.reduceAdd, Nat.reducePow, Nat.reduceDiv, Nat.reduceMod, Nat.reduceLeDiff, r10, w]
       exact ih (i + 1) _ _ (by omega) ⟨by omega, vR', l ++ [_], more, by simp [ll], by rw [iU]; exact S, by simp [ac, r2, ah], by simp [ac, r3, ah], by simp [ac, r6], by simp [ac], by simp [ac, r8], by simp [ac, r9], by simp [ac]⟩
     | 4, _, hk =>
       have hk' : (aw .u8 ((w1 : Int).tdiv 16)).tmod 5 = (4 : Int) := hk
       simp only [BS, LB, Nat.reduceLT, Nat.reduceEqDiff, Nat.reduceAdd, Int.reduceToNat, Int.reduceLE, Int.reduceLT, Int.cast_ofNat_Int, Tryz.FFsh251, r2, r3, r10, l0, l4, aL, hlt, jb n16, fV n5, hk', Int.reduceEq]
       refine az (aD rfl) (q := 8192) (ps := []) (by kernel_rfl) ?_
       simp only [BS, LB, cls, Nat.reduceLT, Nat.reduceEqDiff, Nat.reduceAdd, Nat.reducePow, Nat.reduceDiv, Nat.reduceMod, Nat.reduceLeDiff, Tryz.FFsh251, r7, r8, r9, r10, x1, y1, x2, y2, cL]
       refine bM (bu (by first | exact Tryz.u22 | exact Tryz.u25 | exact Tryz.u29 | exact Tryz.u38) (by first | exact Tryz.e2E | exact Tryz.e4E | exact Tryz.e5E | exact Tryz.e56E) (by decide) (by first | rfl | exact fillE )) S ?_; clear S; intro h bt S n_bt e_bt; simp only [aO, aT, ae, List.cons_append, List.nil_append, List.append_nil, List.set_cons_zero, List.set_cons_succ, Nat.reduceMul, Nat.reduceAdd, Nat.zero_mul, Nat.zero_add, Nat.mul_one, Nat.one_mul] at S
       simp only [BS, LB, cls, Nat.reduceLT, Nat.reduceEqDiff, Nat.reduceAdd, Nat.reducePow, Nat.reduceDiv, Nat.reduceMod, Nat.reduceLeDiff]
       have src := kR (S.row (b := bt) m0)
       replace S := S.drop1
       refine hQ (S.grow (j := 0) (m := 1) rfl Tryz.u25 Tryz.e2E (by decide) Tryz.n25 src rfl (by decide) rfl (hz _)) ?_
       clear S src; rintro h vR' S
       simp only [List.set_cons_zero] at S
       simp only [BS, LB, cls, Nat.reduceLT, Nat.reduceEqDiff, Nat.reduceAdd, Nat.reducePow, Nat.reduceDiv, Nat.reduceMod, Nat.reduceLeDiff, r10, w]
       exact ih (i + 1) _ _ (by omega) ⟨by omega, vR', l ++ [_], more, by simp [ll], by rw [iU]; exact S, by simp [ac, r2, ah], by simp [ac, r3, ah], by simp [ac, r6], by simp [ac], by simp [ac, r8], by simp [ac, r9], by simp [ac]⟩
   · simp only [BS, LB, an, Nat.reduceLT, Nat.reduceEqDiff, Tryz.FFsh251, r3, r7, r10, l0, aL, hlt]
     exact ⟨gE.trans S.gr, l, (S.gown _ m0).1.sl rfl (dH .i64) (by decide), .inr (by omega), fun c hc => ((S.gblk m0 hc).1).elim (fun h => Nat.le_trans gE.n h) (fun h => h.elim)⟩
 · exact ⟨Nat.zero_le _, _, [], _, rfl, S, by simp [ac, ah], by simp [ac, ah], by simp [ac]; rfl, by simp [ac], by simp [ac, hVT], by simp [ac, hVF], by simp [ac]⟩
end Go.Ab

end
