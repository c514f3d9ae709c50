/- Nets, cells, flags: what the functions do (part 3). -/
import Derived.Test.YtnnimodkmjedaaaGreatDoorNetB
set_option maxHeartbeats 4000000
set_option linter.defProp false
set_option linter.unusedVariables false
set_option linter.unusedSimpArgs false
section
namespace Go.Ab
theorem slice_lo {E : Env} {t e : TypeId} {b n N : Nat} {kd : IntKind} (hu : E.und t = some (.slice e)) (hs : E.sz e = some 1) (hn : n < N) : sliceP E t (.slice (some ⟨b, 0, none⟩) N N) (some (.int kd (n : Int))) none none = some (.slice (some ⟨b, n, none⟩) (N - n) (N - n)) := by
  have nat : ∀ n : Nat, natOf (n : Int) = some n := fun n => rfl
  have hb : Nat.beq N n = false := by
    cases h : Nat.beq N n with
    | false => rfl
    | true => have := Nat.eq_of_beq_eq_true h; omega
  simp only [sliceP, hu, boundsP, boundP, nat, Nat.ble_eq_true_of_le (Nat.le_of_lt hn), cond_true, hs, Option.isSome_none, cond_false, hb, addrAdd, Nat.mul_one, Nat.zero_add]
theorem slice_hi0 {E : Env} {t e : TypeId} {b n N k : Nat} {kd : IntKind} (hu : E.und t = some (.slice e)) (hs : E.sz e = some k) (hn : n ≤ N) : sliceP E t (.slice (some ⟨b, 0, none⟩) N N) none (some (.int kd (n : Int))) none = some (.slice (some ⟨b, 0, none⟩) n N) := by
  have nat : ∀ n : Nat, natOf (n : Int) = some n := fun n => rfl
  simp only [sliceP, hu, boundsP, boundP, nat, Nat.ble_eq_true_of_le hn, cond_true, hs, Option.isSome_none, cond_false, addrAdd, Nat.zero_mul, Nat.add_zero, Nat.sub_zero]
  cases Nat.beq N 0 <;> rfl
section
variable {M : Nat → Prop} {h0 h : Hp} {L : List (Nat × Ob)} {G : List GL} {E : Env} {t e : TypeId}
theorem St.copyO (S : St M h0 h L G) {i b o len cap b2 o2 m c2 : Nat} {sp sp2 : Option Nat} {cs l : List Value} (hi : L[i]? = some (b, .row cs 1)) (hu : E.und t = some (.slice e)) (hs : E.sz e = some 1) (hm : 0 < nmin m len) (hl : h.load b2 o2 (nmin m len * 1) = some l) (hll : o + l.length ≤ cs.length) (hf : l.all flatV = true) {ts : List TypeId} :
    ∃ h' w, copyV E h (t :: ts) (.slice (some ⟨b, o, sp⟩) len cap) (.slice (some ⟨b2, o2, sp2⟩) m c2) = some (h', w) ∧ w = .int .i64 (nmin m len : Nat) ∧ St M h0 h' (L.set i (b, .row (lay cs o l) 1)) G := by
  obtain ⟨y, h1, h2⟩ := (S.row (List.mem_of_getElem? hi)).store S.ok Nat.one_ne_zero (o := o) (vs := l) hll hf
  have len1 := load_len hl
  refine ⟨h.put b y, _, ?_, rfl, S.put hi h2⟩
  simp only [copyV, hu, hs, hl]
  cases l with
  | nil => simp at len1; omega
  | cons x xs => simp only [h1]; rfl
end
theorem nmin_le {a b : Nat} (h : a ≤ b) : nmin a b = a := by unfold nmin; rw [Nat.ble_eq_true_of_le h]; rfl
theorem nmin_ge {a b : Nat} (h : b ≤ a) : nmin a b = b := by
  unfold nmin
  cases hb : Nat.ble a b with
  | false => rfl
  | true => have := Nat.le_of_ble_eq_true hb; show a = b; omega
theorem lay_rep {X Z : Value} {n c k : Nat} (hk : c ≤ k) : lay (List.replicate n X ++ List.replicate k Z) n (List.replicate c X) = List.replicate (n + c) X ++ List.replicate (k - c) Z := by
  refine List.ext_getElem? fun j => ?_
  rw [lay_get (by simp; omega), List.length_replicate, List.getElem?_append, List.getElem?_append, List.length_replicate, List.length_replicate, List.getElem?_replicate, List.getElem?_replicate, List.getElem?_replicate, List.getElem?_replicate, List.getElem?_replicate]
  by_cases h1 : j < n
  · rw [if_neg (by omega), if_pos h1, if_pos h1, if_pos (by omega), if_pos (by omega)]
  · by_cases h2 : j < n + c
    · rw [if_pos (by omega), if_pos (by omega), if_pos h2, if_pos h2]
    · rw [if_neg (by omega), if_neg h1, if_neg h2]
      by_cases h3 : j - n < k
      · rw [if_pos h3, if_pos (by omega)]
      · rw [if_neg h3, if_neg (by omega)]
theorem repL_rep (z : Value) : ∀ n, repL [z] n = List.replicate n z
  | 0 => rfl
  | n + 1 => by simp [repL, repL_rep z n, List.replicate_succ]
end Go.Ab

end
section
namespace Go.Ab
open Go.Proofs
set_option maxRecDepth 10000
open Tryz in
def Tryz.FFf2111 := aj a1 <| aj s1 <| aj z1 <| aj n1 <| aj u2 <| aj a2 <| aj s2 <| aj z2 <| aj i2 <| aj u3 <| aj a3 <| aj s3 <| aj z3 <| aj i3 <| aj u4 <| aj a4 <| aj s4 <| aj z4 <| aj n4 <| aj u5 <| aj a5 <| aj s5 <| aj z5 <| aj i5 <| aj u6 <| aj a6 <| aj s6 <| aj z6 <| aj i6 <| aj a7 <| aj s7 <| aj z7 <| aj i7 <| aj n7 <| aj p7 <| aj ff7 <| aj d7 <| aj a8 <| aj s8 <| aj z8 <| aj i8 <| aj n8 <| aj p8 <| aj ff8 <| aj d8 <| aj u9 <| aj a9 <| aj s9 <| aj z9 <| aj n9 <| aj u10 <| aj a10 <| aj s10 <| aj z10 <| aj n10 <| aj a20 <| aj s20 <| aj z20 <| aj q20 <| aj n20 <| aj u43 <| aj a43 <| aj s43 <| aj z43 <| aj q43 <| aj n43 <| aj u240 <| aj a240 <| aj s240 <| aj z240 <| i240
theorem repI_ok {h0 : Hp} (ok : h0.t.Sized h0.n) {v : Value} {x : Int} {N : Nat} (hv : SlAt h0 1 (encI .i64) v [x]) (h1 : 1 ≤ N) (hN : N < 1000) : Ret Tryz.abEnv 111 [v, .int .i64 N] h0 fun r h' => Gr h0 h' ∧ ∃ b, r = .slice (some ⟨b, 0, none⟩) N N ∧ h0.n ≤ b ∧ Row h' b (List.replicate N (.int .i64 x)) 1 := by
  have S := St.init (M := NoM) ok
  have c1 : ¬ ((N : Int) < 0) := by omega
  have c2 : ¬ ((9223372036854775807 : Int) < (N : Int)) := by omega
  have wn : wrapI .u64 (N : Int) = (N : Int) := wrapUn (by omega) (by omega)
  have w1 : wrapI .u64 1 = 1 := rfl
  have wm : wrapI .i64 (N : Int) = (N : Int) := by rw [wrap64] <;> omega
  obtain ⟨bx, ox, sx, cx, rfl, hcx, hx⟩ : ∃ b o s c, v = .slice (some ⟨b, o, s⟩) 1 c ∧ 1 ≤ c ∧ h0.load b o 1 = some [.int .i64 x] := by
    rcases hv with ⟨_, h⟩ | ⟨b, o, s, c, rfl, h2, h3⟩
    · cases h
    · exact ⟨b, o, s, c, rfl, h2, h3⟩
  refine enter_ret (n := 48) (rs := [.tmp 4]) rfl Tryz.e111 rfl rfl rfl (Nat.le_of_ble_eq_true rfl) ?_
  simp only [BS, convV, convKind, convP, Nat.reduceLT, Nat.reduceEqDiff, if_true, if_false, List.map_cons, List.map_nil, List.append_nil, List.nil_append, Int.cast_ofNat_Int, decide_false, eq_self, Tryz.FFf2111, c1, wn, w1]
  refine step_pure (mul_ok S.ok hN) ?_; intro h g; replace S := S.call g; clear g
  simp only [BS, convV, convKind, convP, Nat.reduceLT, Nat.reduceEqDiff, if_true, if_false, List.getElem?_cons_zero, List.getElem?_cons_succ, Int.reduceLT, Bool.not_false, decide_false, eq_self, Tryz.FFf2111, c2, wm]
  refine step_newS (mk_new (by first | exact Tryz.u43) (by first | exact Tryz.e3E) (by omega) (by omega)) S ?_; clear S; intro h bb S n_bb
  rw [Int.toNat_natCast, repL_rep] at S
  simp only [BS, Nat.reduceLT, Nat.reduceEqDiff, if_true, if_false, eq_self, Int.toNat_natCast]
  refine step_v (S.copyO (i := 0) (l := List.replicate 1 (.int .i64 x)) rfl Tryz.u43 Tryz.s3 (by rw [nmin_le h1]; decide) (by rw [nmin_le h1]; exact S.old hx (fun h => h)) (by simp; omega) rfl) ?_
  clear S; rintro h w ⟨rfl, S⟩
  simp only [List.set_cons_zero] at S
  rw [show List.replicate N (Value.int .i64 0) = List.replicate 0 (.int .i64 x) ++ List.replicate N (.int .i64 0) by simp, lay_rep h1] at S
  rw [nmin_le h1]
  simp only [BS, Nat.reduceLT, Nat.reduceEqDiff, if_true, if_false, Int.cast_ofNat_Int, eq_self]
  refine loop_ind (fun (n : Nat) ρ h => 1 ≤ n ∧ n ≤ N ∧ St NoM h0 h [(bb, .row (List.replicate n (.int .i64 x) ++ List.replicate (N - n) (.int .i64 0)) 1)] [] ∧ ρ 7 = .slice (some ⟨bb, 0, none⟩) N N ∧ ρ 8 = .int .i64 n) (fun n => N - n) ?_ 1 _ _ ?_
  · clear S
    intro n ih ρ h ⟨hn1, hn, S, r7, r8⟩
    by_cases hlt : n < N
    · simp only [BS, Nat.reduceLT, Nat.reduceEqDiff, if_true, if_false, decide_true, eq_self, Tryz.FFf2111, r7, r8, lt_nat, hlt]
      refine draw_step (hoist_no rfl) (q := 0) (ps := []) (by kernel_rfl) ?_
      simp only [BS, cls, Nat.reduceLT, Nat.reduceEqDiff, Nat.reduceAdd, if_true, if_false, Nat.reducePow, Nat.reduceDiv, Nat.reduceMod, Nat.reduceLeDiff, Bool.and_false, Nat.zero_add, decide_false, Option.map_some, Option.map_none, eq_self, r7, r8, slice_lo Tryz.u43 Tryz.s3 hlt, slice_hi0 Tryz.u43 Tryz.s3 (Nat.le_of_lt hlt)]
      have hm : 0 < nmin n (N - n) := by
        rcases Nat.le_total n (N - n) with h | h
        · rw [nmin_le h]; omega
        · rw [nmin_ge h]; omega
      have hm2 : nmin n (N - n) ≤ N - n ∧ nmin n (N - n) ≤ n := by
        rcases Nat.le_total n (N - n) with h | h
        · rw [nmin_le h]; omega
        · rw [nmin_ge h]; omega
      refine dn_v (S.copyO (i := 0) (l := List.replicate (nmin n (N - n)) (.int .i64 x)) rfl Tryz.u43 Tryz.s3 hm ?_ (by simp; omega) (by simp; right; rfl)) ?_
      · rw [(S.row m0).load (by simp; omega), Nat.mul_one, List.drop_zero]
        congr 1
        rw [List.take_append_of_le_length (by simp; omega), List.take_replicate]
        congr 1
        omega
      clear S; rintro h w ⟨rfl, S⟩
      simp only [List.set_cons_zero] at S
      rw [lay_rep hm2.1] at S
      generalize nmin n (N - n) = k at S hm hm2
      have w : wrapI .i64 ((n : Int) + (k : Int)) = ((n + k : Nat) : Int) := by rw [wrap64] <;> omega
      simp only [BS, cls, Nat.reduceLT, Nat.reduceEqDiff, Nat.reduceAdd, if_true, if_false, Nat.reducePow, Nat.reduceDiv, Nat.reduceMod, Nat.reduceLeDiff, Bool.and_false, true_and, decide_false, eq_self, w]
      exact ih (n + k) _ _ (by omega) ⟨by omega, by omega, by rw [show N - (n + k) = N - n - k by omega]; exact S, by simp [setR, r7], by simp [setR]⟩
    · simp only [BS, tupleOf, Nat.reduceLT, Nat.reduceEqDiff, if_true, if_false, decide_false, eq_self, Tryz.FFf2111, r7, r8, lt_nat, hlt]
      have e : n = N := by omega
      subst e
      have R := S.row (b := bb) m0
      rw [Nat.sub_self, List.replicate_zero, List.append_nil] at R
      exact ⟨S.gr, bb, rfl, n_bb, R⟩
  · exact ⟨Nat.le_refl _, h1, by simpa using S, by simp [setR], by simp [setR]⟩
end Go.Ab

end
section
namespace Go.Ab
section
variable {M : Nat → Prop} {h0 h h' : Hp} {L L' : List (Nat × Ob)} {G G' : List GL} {Fh : List Nat}
theorem St.stepF (S : St M h0 h L G) (f : Mo (· ∈ Fh) h h') (hF : ∀ c ∈ Fh, (M c ∨ h0.n ≤ c) ∧ c ∉ keys L G) : St M h0 h' L G :=
  S.step f (fun c hc => (hF c hc).1) (fun c hc hm => (hF c hm).2 hc)
end
theorem St.mono {M M' : Nat → Prop} {h0 h : Hp} {L : List (Nat × Ob)} {G : List GL} (S : St M h0 h L G) (hm : ∀ b, M b → M' b) : St M' h0 h L G :=
  ⟨S.fr.mono hm, fun p hp => ⟨(S.own p hp).1.imp (fun h => h) (hm _), (S.own p hp).2⟩, fun p hp => ⟨(S.gown p hp).1, fun b hb => ((S.gown p hp).2 b hb).imp (fun h => h) (hm _)⟩, S.apart⟩
theorem Dj.exm {B : List Arc} {s N : Nat} {O : List Nat} {D : Nat → Nat} {K : Nat → Option Int} {ex ex' : Arc → Prop} (d : Dj B s N O D K ex) (h : ∀ a ∈ B, ex a → ex' a) : Dj B s N O D K ex' :=
  ⟨d.i1, d.i2, d.i2f, d.i3, fun a ha hs hx => d.i4 a ha hs (fun hh => hx (h a ha hh)), d.i5, d.nd, d.lt⟩
end Go.Ab

end
section
namespace Go.Ab
theorem Wk.trans {B : List Arc} {a b c x y : Nat} (h : Wk B a b x) (k : Wk B b c y) : Wk B a c (x + y) := by
  induction k with
  | nil => exact h
  | @snoc w e he _ ih => exact Wk.snoc' ih he rfl rfl (by omega)
theorem Wk.back {B C : List Arc} (hBC : ∀ a ∈ B, ∃ b ∈ C, b.s = a.t ∧ b.t = a.s ∧ b.w = a.w) {m v w x y : Nat} (h : Wk B v w x) (k : Wk C m w y) : Wk C m v (x + y) := by
  induction h generalizing y with
  | nil => rw [Nat.zero_add]; exact k
  | @snoc z e he _ ih =>
    obtain ⟨b, hb, e1, e2, e3⟩ := hBC e he
    have := ih (Wk.snoc' k hb e1 e2 rfl)
    rw [e3] at this
    rw [show z + e.w + y = z + (y + e.w) by omega]; exact this
theorem IsD.wk {B : List Arc} {s v x w : Nat} (h : IsD B s v x) (k : Wk B s v w) : x < FAR ∧ x ≤ w ∧ Wk B s v x := by
  rcases h with ⟨a, b, c⟩ | ⟨a, b⟩
  · exact ⟨a, c w k, b⟩
  · exact absurd k (b w)
theorem IsD.far {B : List Arc} {s v x : Nat} (h : IsD B s v x) (hx : x < FAR) : Wk B s v x := by
  rcases h with ⟨a, b, c⟩ | ⟨a, b⟩
  · exact b
  · omega
end Go.Ab

end
section
namespace Go.Ab
structure Ev where
  kind : Nat
  id : Nat
  lab : Nat
def encE (e : Ev) : List Value := [.int .i64 e.kind, .int .i64 0, .int .i64 e.id, .int .i64 e.lab]
theorem encE_len (e : Ev) : (encE e).length = 4 := rfl
structure SS where
  K : Nat → Option Int
  L : Nat → Nat
  P : Nat → List Nat
  O : List Nat
  ev : List Ev
structure Fd where
  dist : Nat
  arcs : List Nat
  ev : List Ev
def Pops (K : Nat → Option Int) (v : Nat) (k : Int) : Prop := K v = some k ∧ ∀ u k', K u = some k' → k < k' ∨ (k = k' ∧ v ≤ u)
def updP (P : Nat → List Nat) (v : Nat) (l : List Nat) : Nat → List Nat := fun u => if u = v then l else P u
def reachS (pi : Nat → Int) (σ : SS) (v lab : Nat) (p : List Nat) : SS :=
  if v ∈ σ.O ∨ (FAR : Int) ≤ pi v ∨ ((σ.K v).isSome = true ∧ σ.L v ≤ lab) then σ else ⟨updK σ.K v (some (lab + pi v)), updD σ.L v lab, updP σ.P v p, σ.O, σ.ev⟩
def closeS (σ : SS) (v : Nat) : SS := ⟨updK σ.K v none, σ.L, σ.P, σ.O ++ [v], σ.ev ++ [⟨0, v, σ.L v⟩]⟩
def evS (σ : SS) (e : Ev) : SS := ⟨σ.K, σ.L, σ.P, σ.O, σ.ev ++ [e]⟩
def scan1 (A : List Arc) (al : Nat → Bool) (pi : Nat → Int) (v : Nat) (σ : SS) (a : Nat) : SS :=
  if al a = true then reachS pi (evS σ ⟨1, a, 0⟩) (A.getD a default).t (σ.L v + (A.getD a default).w) (a :: σ.P v) else σ
def scanS (A : List Arc) (al : Nat → Bool) (pi : Nat → Int) (v : Nat) (σ : SS) : SS := (outs A Arc.s A.length v).foldl (scan1 A al pi v) σ
def initS (pi : Nat → Int) (s : Nat) : SS := reachS pi ⟨fun _ => none, fun _ => 0, fun _ => [], [], []⟩ s 0 []
inductive Ends (A : List Arc) (al : Nat → Bool) (pi : Nat → Int) (to : Nat) : SS → Fd → Prop where
  | none {σ : SS} : (∀ v, σ.K v = none) → Ends A al pi to σ ⟨FAR, [], σ.ev⟩
  | hit {σ : SS} {k : Int} : Pops σ.K to k → Ends A al pi to σ ⟨σ.L to, (σ.P to).reverse, (closeS σ to).ev⟩
  | step {σ : SS} {v : Nat} {k : Int} {r : Fd} : Pops σ.K v k → v ≠ to → Ends A al pi to (scanS A al pi v (closeS σ v)) r → Ends A al pi to σ r
section
variable {A : List Arc} {N s : Nat} {al : Nat → Bool} {pi : Nat → Int} {σ : SS}
structure Sv (A : List Arc) (N s : Nat) (al : Nat → Bool) (pi : Nat → Int) (σ : SS) : Prop where
  nd : σ.O.Nodup
  lt : ∀ v ∈ σ.O, v < N
  op : ∀ v k, σ.K v = some k → v < N ∧ v ∉ σ.O ∧ pi v < (FAR : Int) ∧ k = σ.L v + pi v
  bd : ∀ v, σ.L v ≤ σ.O.length * WMAX ∧ (σ.P v).length ≤ σ.O.length
  pc : ∀ v ∈ σ.O, pi v < (FAR : Int)
  path : ∀ v, (v ∈ σ.O ∨ σ.K v ≠ none) → (v = s ∧ σ.P v = [] ∧ σ.L v = 0) ∨ ∃ a, a < A.length ∧ al a = true ∧ (A.getD a default).t = v ∧ (A.getD a default).s ∈ σ.O ∧ σ.P v = a :: σ.P (A.getD a default).s ∧ σ.L v = σ.L (A.getD a default).s + (A.getD a default).w
theorem Sv.len (h : Sv A N s al pi σ) : σ.O.length ≤ N := nodup_le N σ.O h.nd h.lt
theorem Sv.evS (h : Sv A N s al pi σ) (e : Ev) : Sv A N s al pi (evS σ e) := ⟨h.nd, h.lt, h.op, h.bd, h.pc, h.path⟩
theorem sv_init (hs : s < N) : Sv A N s al pi (initS pi s) := by
  unfold initS reachS
  have z : Sv A N s al pi ⟨fun _ => none, fun _ => 0, fun _ => [], [], []⟩ :=
    ⟨.nil, fun v h => (by cases h), fun v k h => (by cases h), fun v => ⟨Nat.zero_le _, Nat.zero_le _⟩, fun v h => (by cases h), fun v h => h.elim (fun h => by cases h) (fun h => absurd rfl h)⟩
  split
  · exact z
  · rename_i hc
    simp only [not_or] at hc
    refine ⟨.nil, fun v h => (by cases h), fun v k h => ?_, fun v => ⟨?_, ?_⟩, fun v h => (by cases h), fun v h => ?_⟩
    · simp only [updK, updD] at h ⊢
      split at h
      · rename_i e; subst e; cases h
        exact ⟨hs, by simp, by omega, by simp⟩
      · cases h
    · simp only [updD]; split <;> simp
    · simp only [updP]; split <;> simp
    · by_cases e : v = s
      · subst e; exact .inl ⟨rfl, by simp [updP], by simp [updD]⟩
      · simp [updK, e] at h
structure Keeps (σ τ : SS) : Prop where
  O : τ.O = σ.O
  L : ∀ u ∈ σ.O, τ.L u = σ.L u
  P : ∀ u ∈ σ.O, τ.P u = σ.P u
theorem Keeps.refl : Keeps σ σ := ⟨rfl, fun _ _ => rfl, fun _ _ => rfl⟩
theorem Keeps.trans {τ υ : SS} (h : Keeps σ τ) (g : Keeps τ υ) : Keeps σ υ :=
  ⟨g.O.trans h.O, fun u hu => (g.L u (by rw [h.O]; exact hu)).trans (h.L u hu), fun u hu => (g.P u (by rw [h.O]; exact hu)).trans (h.P u hu)⟩
theorem Sv.reach (h : Sv A N s al pi σ) {a lab v : Nat} {p : List Nat} (ha : a < A.length) (hal : al a = true) (ht : (A.getD a default).t = v) (hN : v < N) (hs : (A.getD a default).s ∈ σ.O) (hl : lab = σ.L (A.getD a default).s + (A.getD a default).w) (hp : p = a :: σ.P (A.getD a default).s)
    (b1 : lab ≤ σ.O.length * WMAX) (b2 : p.length ≤ σ.O.length) : Sv A N s al pi (reachS pi σ v lab p) ∧ Keeps σ (reachS pi σ v lab p) := by
  unfold reachS
  split
  · exact ⟨h, .refl⟩
  · rename_i hc
    simp only [not_or] at hc
    obtain ⟨c1, c2, c3⟩ := hc
    have q : ∀ u ∈ σ.O, u ≠ v := fun u hu e => c1 (by subst e; exact hu)
    refine ⟨⟨h.nd, h.lt, fun u k hk => ?_, fun u => ⟨?_, ?_⟩, h.pc, fun u hu => ?_⟩, ⟨rfl, fun u hu => by simp [updD, q u hu], fun u hu => by simp [updP, q u hu]⟩⟩
    · simp only [updK, updD] at hk ⊢
      split at hk
      · rename_i e; subst e; cases hk
        exact ⟨hN, c1, by omega, by simp⟩
      · rename_i e
        rw [if_neg e]; exact h.op u k hk
    · simp only [updD]; split
      · exact b1
      · exact (h.bd u).1
    · simp only [updP]; split
      · exact b2
      · exact (h.bd u).2
    · have e1 : updD σ.L v lab (A.getD a default).s = σ.L (A.getD a default).s := if_neg (q _ hs)
      have e2 : updP σ.P v p (A.getD a default).s = σ.P (A.getD a default).s := if_neg (q _ hs)
      by_cases e : u = v
      · subst e
        refine .inr ⟨a, ha, hal, ht, hs, ?_, ?_⟩
        · show updP σ.P u p u = a :: updP σ.P u p (A.getD a default).s
          rw [e2, ← hp]; exact if_pos rfl
        · show updD σ.L u lab u = updD σ.L u lab (A.getD a default).s + (A.getD a default).w
          rw [e1, ← hl]; exact if_pos rfl
      · have hu' : u ∈ σ.O ∨ σ.K u ≠ none := by simpa [updK, e] using hu
        rcases h.path u hu' with ⟨k1, k2, k3⟩ | ⟨b, k1, k2, k3, k4, k5, k6⟩
        · exact .inl ⟨k1, by simp [updP, e, k2], by simp [updD, e, k3]⟩
        · refine .inr ⟨b, k1, k2, k3, k4, ?_, ?_⟩
          · simp only [updP, if_neg e, if_neg (q _ k4)]; exact k5
          · simp only [updD, if_neg e, if_neg (q _ k4)]; exact k6
theorem Sv.close (h : Sv A N s al pi σ) {v : Nat} {k : Int} (hk : σ.K v = some k) : Sv A N s al pi (closeS σ v) := by
  obtain ⟨o1, o2, o3, o4⟩ := h.op v k hk
  have hl : (σ.O ++ [v]).length * WMAX = σ.O.length * WMAX + WMAX := by rw [List.length_append, List.length_singleton, Nat.succ_mul]
  refine ⟨?_, fun u hu => ?_, fun u k' hu => ?_, fun u => ⟨?_, ?_⟩, fun u hu => ?_, fun u hu => ?_⟩
  · show (σ.O ++ [v]).Nodup
    rw [List.nodup_append]
    exact ⟨h.nd, by simp, fun a ha b hb e => o2 (by simp at hb; subst hb; subst e; exact ha)⟩
  · rcases List.mem_append.1 hu with hu | hu
    · exact h.lt u hu
    · simp at hu; subst hu; exact o1
  · simp only [closeS, updK] at hu ⊢
    split at hu
    · cases hu
    · rename_i e
      obtain ⟨a, b, c, d⟩ := h.op u k' hu
      exact ⟨a, by simp [b, e], c, d⟩
  · show σ.L u ≤ (σ.O ++ [v]).length * WMAX
    rw [hl]; have := (h.bd u).1; omega
  · show (σ.P u).length ≤ (σ.O ++ [v]).length
    have := (h.bd u).2; simp; omega
  · rcases List.mem_append.1 hu with hu | hu
    · exact h.pc u hu
    · simp at hu; subst hu; exact o3
  · have hu' : u ∈ σ.O ∨ σ.K u ≠ none := by
      by_cases e : u = v
      · subst e; exact .inr (by rw [hk]; nofun)
      · simpa [closeS, updK, e] using hu
    rcases h.path u hu' with hq | ⟨b, k1, k2, k3, k4, k5, k6⟩
    · exact .inl hq
    · exact .inr ⟨b, k1, k2, k3, List.mem_append_left _ k4, k5, k6⟩
def Room (σ : SS) (v : Nat) : Prop := v ∈ σ.O ∧ σ.L v + WMAX ≤ σ.O.length * WMAX ∧ (σ.P v).length + 1 ≤ σ.O.length
theorem Room.keeps {τ : SS} {v : Nat} (r : Room σ v) (k : Keeps σ τ) : Room τ v := by
  obtain ⟨a, b, c⟩ := r
  exact ⟨by rw [k.O]; exact a, by rw [k.O, k.L v a]; exact b, by rw [k.O, k.P v a]; exact c⟩
theorem Sv.room (h : Sv A N s al pi σ) (v : Nat) : Room (closeS σ v) v := by
  have := h.bd v
  refine ⟨List.mem_append_right _ (by simp), ?_, ?_⟩
  · show σ.L v + WMAX ≤ (σ.O ++ [v]).length * WMAX
    rw [List.length_append, List.length_singleton, Nat.succ_mul]; omega
  · show (σ.P v).length + 1 ≤ (σ.O ++ [v]).length
    simp; omega
theorem Sv.scan1 (h : Sv A N s al pi σ) (hA : ∀ a ∈ A, a.t < N ∧ a.w ≤ WMAX) {v a : Nat} (r : Room σ v) (ha : a < A.length) (hv : (A.getD a default).s = v) : Sv A N s al pi (scan1 A al pi v σ a) ∧ Keeps σ (scan1 A al pi v σ a) := by
  unfold Ab.scan1
  split
  · rename_i hal
    obtain ⟨r1, r2, r3⟩ := r
    have ok := hA (A.getD a default) (by rw [List.getD_eq_getElem?_getD, List.getElem?_eq_getElem ha]; exact List.getElem_mem ha)
    subst hv
    obtain ⟨h1, h2⟩ := (h.evS ⟨1, a, 0⟩).reach (p := a :: σ.P (A.getD a default).s) (lab := σ.L (A.getD a default).s + (A.getD a default).w) ha hal rfl ok.1 r1 rfl rfl (by show _ ≤ σ.O.length * WMAX; omega) (by show (σ.P _).length + 1 ≤ σ.O.length; exact r3)
    exact ⟨h1, ⟨h2.O, h2.L, h2.P⟩⟩
  · exact ⟨h, .refl⟩
theorem Sv.scanL (hA : ∀ a ∈ A, a.t < N ∧ a.w ≤ WMAX) {v : Nat} : ∀ (l : List Nat) {σ : SS}, Sv A N s al pi σ → Room σ v → (∀ a ∈ l, a < A.length ∧ (A.getD a default).s = v) → Sv A N s al pi (l.foldl (Ab.scan1 A al pi v) σ) ∧ Keeps σ (l.foldl (Ab.scan1 A al pi v) σ)
  | [], _, h, _, _ => ⟨h, .refl⟩
  | a :: l, σ, h, r, hl => by
    obtain ⟨h1, h2⟩ := h.scan1 hA r (hl a (by simp)).1 (hl a (by simp)).2
    obtain ⟨h3, h4⟩ := Sv.scanL hA l h1 (r.keeps h2) (fun b hb => hl b (by simp [hb]))
    exact ⟨h3, h2.trans h4⟩
theorem Sv.next (h : Sv A N s al pi σ) (hA : ∀ a ∈ A, a.t < N ∧ a.w ≤ WMAX) {v : Nat} {k : Int} (hk : σ.K v = some k) : Sv A N s al pi (scanS A al pi v (closeS σ v)) ∧ Keeps (closeS σ v) (scanS A al pi v (closeS σ v)) :=
  Sv.scanL hA _ (h.close hk) (h.room v) (fun _ ha => mem_outs.1 ha)

def InH (A : List Arc) (al : Nat → Bool) (pi : Nat → Int) (a : Nat) : Prop := al a = true ∧ pi (A.getD a default).s < (FAR : Int) ∧ pi (A.getD a default).t < (FAR : Int)
instance (a : Nat) : Decidable (InH A al pi a) := by unfold InH; infer_instance
def hArcs (A : List Arc) (al : Nat → Bool) (pi : Nat → Int) : List Arc := ((List.range A.length).filter fun a => decide (InH A al pi a)).map fun a => A.getD a default
theorem mem_hArcs {a : Arc} : a ∈ hArcs A al pi ↔ ∃ i, i < A.length ∧ InH A al pi i ∧ A.getD i default = a := by
  unfold hArcs
  simp only [List.mem_map, List.mem_filter, List.mem_range, decide_eq_true_eq, and_assoc]
def Feas (A : List Arc) (al : Nat → Bool) (pi : Nat → Int) : Prop := ∀ i, i < A.length → InH A al pi i → pi (A.getD i default).s ≤ (A.getD i default).w + pi (A.getD i default).t
theorem Sv.wk (h : Sv A N s al pi σ) : ∀ (n : Nat) {v : Nat}, (σ.P v).length ≤ n → (v ∈ σ.O ∨ σ.K v ≠ none) → Wk (hArcs A al pi) s v (σ.L v) := by
  have pv : ∀ v, (v ∈ σ.O ∨ σ.K v ≠ none) → pi v < (FAR : Int) := fun v hv => hv.elim (h.pc v) (fun hv => by
    cases hk : σ.K v with
    | none => exact absurd hk hv
    | some k => exact (h.op v k hk).2.2.1)
  intro n
  induction n with
  | zero =>
    intro v hn hv
    rcases h.path v hv with ⟨rfl, _, e⟩ | ⟨a, _, _, _, _, e, _⟩
    · rw [e]; exact .nil
    · rw [e] at hn; simp at hn
  | succ n ih =>
    intro v hn hv
    rcases h.path v hv with ⟨rfl, _, e⟩ | ⟨a, k1, k2, k3, k4, k5, k6⟩
    · rw [e]; exact .nil
    · rw [k5] at hn
      rw [k6]
      exact Wk.snoc' (ih (v := (A.getD a default).s) (by simpa using hn) (.inl k4)) (mem_hArcs.2 ⟨a, k1, ⟨k2, h.pc _ k4, by rw [k3]; exact pv v hv⟩, rfl⟩) rfl k3 rfl
structure Fe (A : List Arc) (s : Nat) (al : Nat → Bool) (pi : Nat → Int) (σ : SS) (ex : Nat → Prop) : Prop where
  opt : ∀ v ∈ σ.O, ∀ w, Wk (hArcs A al pi) s v w → σ.L v ≤ w
  fr : ∀ a, a < A.length → InH A al pi a → (A.getD a default).s ∈ σ.O → ¬ ex a → (A.getD a default).t ∈ σ.O ∨ (σ.K (A.getD a default).t ≠ none ∧ σ.L (A.getD a default).t ≤ σ.L (A.getD a default).s + (A.getD a default).w)
  st : s ∈ σ.O ∨ (σ.K s ≠ none ∧ σ.L s = 0)
theorem fe_init (hp : pi s < (FAR : Int)) : Fe A s al pi (initS pi s) (fun _ => False) := by
  have e : initS pi s = ⟨updK (fun _ => none) s (some ((0 : Nat) + pi s)), updD (fun _ => 0) s 0, updP (fun _ => []) s [], [], []⟩ := by
    unfold initS reachS
    rw [if_neg (by simp; omega)]
  rw [e]
  exact ⟨fun v h => (by cases h), fun a _ _ h => (by cases h), .inr ⟨by simp [updK], by simp [updD]⟩⟩
theorem Fe.front (f : Fe A s al pi σ (fun _ => False)) (h : Sv A N s al pi σ) (hF : Feas A al pi) {x w : Nat} (k : Wk (hArcs A al pi) s x w) : x ∈ σ.O ∨ ∃ y, σ.K y ≠ none ∧ (σ.L y : Int) + pi y ≤ w + pi x := by
  induction k with
  | nil => exact f.st.imp (fun h => h) (fun ⟨a, b⟩ => ⟨s, a, by rw [b]; omega⟩)
  | @snoc w a ha hw ih =>
    obtain ⟨i, hi, hh, rfl⟩ := mem_hArcs.1 ha
    have fe := hF i hi hh
    rcases ih with ih | ⟨y, h1, h2⟩
    · rcases f.fr i hi hh ih (fun h => h) with h1 | ⟨h1, h2⟩
      · exact .inl h1
      · have := f.opt _ ih _ hw
        exact .inr ⟨_, h1, by omega⟩
    · exact .inr ⟨y, h1, by omega⟩
theorem Fe.popped (f : Fe A s al pi σ (fun _ => False)) (h : Sv A N s al pi σ) (hF : Feas A al pi) {v : Nat} {k : Int} (hp : Pops σ.K v k) :
    (∀ w, Wk (hArcs A al pi) s v w → σ.L v ≤ w) ∧ ∀ x w, x ∉ σ.O → Wk (hArcs A al pi) s x w → (σ.L v : Int) + pi v ≤ w + pi x := by
  have key : ∀ x w, x ∉ σ.O → Wk (hArcs A al pi) s x w → (σ.L v : Int) + pi v ≤ w + pi x := fun x w hx hw => by
    rcases f.front h hF hw with h1 | ⟨y, h1, h2⟩
    · exact absurd h1 hx
    · cases hk : σ.K y with
      | none => exact absurd hk h1
      | some k' =>
        have a := (h.op y k' hk).2.2.2
        have b := (h.op v k hp.1).2.2.2
        have c := hp.2 y k' hk
        omega
  refine ⟨fun w hw => ?_, key⟩
  have := key v w (h.op v k hp.1).2.1 hw
  omega
theorem Fe.close (f : Fe A s al pi σ (fun _ => False)) (h : Sv A N s al pi σ) (hF : Feas A al pi) {v : Nat} {k : Int} (hp : Pops σ.K v k) : Fe A s al pi (closeS σ v) (fun a => (A.getD a default).s = v) := by
  have pv := (f.popped h hF hp).1
  refine ⟨fun u hu => ?_, fun a ha hh hs hx => ?_, ?_⟩
  · rcases List.mem_append.1 hu with hu | hu
    · exact f.opt u hu
    · simp at hu; subst hu; exact pv
  · rcases List.mem_append.1 hs with hs | hs
    · rcases f.fr a ha hh hs (fun h => h) with h1 | ⟨h1, h2⟩
      · exact .inl (List.mem_append_left _ h1)
      · by_cases e : (A.getD a default).t = v
        · exact .inl (List.mem_append_right _ (List.mem_singleton.2 e))
        · exact .inr ⟨by simp only [closeS, updK]; rw [if_neg e]; exact h1, h2⟩
    · simp at hs; exact absurd hs hx
  · rcases f.st with h1 | ⟨h1, h2⟩
    · exact .inl (List.mem_append_left _ h1)
    · by_cases e : s = v
      · exact .inl (List.mem_append_right _ (List.mem_singleton.2 e))
      · exact .inr ⟨by simp only [closeS, updK]; rw [if_neg e]; exact h1, h2⟩
theorem Fe.reach {ex ex' : Nat → Prop} (f : Fe A s al pi σ ex) {a v lab : Nat} {p : List Nat} (ht : (A.getD a default).t = v) (hl : lab = σ.L (A.getD a default).s + (A.getD a default).w) (hx : ∀ b, ¬ ex' b → ¬ ex b ∨ (b = a)) : Fe A s al pi (reachS pi σ v lab p) ex' := by
  unfold reachS
  split
  · rename_i hc
    refine ⟨f.opt, fun b hb hh hs hbx => ?_, f.st⟩
    rcases hx b hbx with h1 | rfl
    · exact f.fr b hb hh hs h1
    · rw [ht]
      rcases hc with hc | hc | ⟨h1, h2⟩
      · exact .inl hc
      · have := hh.2.2; rw [ht] at this; omega
      · exact .inr ⟨fun e => (by rw [e] at h1; cases h1), by omega⟩
  · rename_i hc
    simp only [not_or] at hc
    obtain ⟨c1, c2, c4⟩ := hc
    have c3 := fun h1 h2 => c4 ⟨h1, h2⟩
    have q : ∀ u ∈ σ.O, u ≠ v := fun u hu e => c1 (by subst e; exact hu)
    refine ⟨fun u hu => ?_, fun b hb hh hs hbx => ?_, ?_⟩
    · simp only [updD, if_neg (q u hu)]; exact f.opt u hu
    · simp only [updD, updK, if_neg (q _ hs)]
      by_cases e : (A.getD b default).t = v
      · right
        simp only [e, if_true]
        refine ⟨by nofun, ?_⟩
        rcases hx b hbx with h1 | rfl
        · rcases f.fr b hb hh hs h1 with h2 | ⟨h2, h3⟩
          · rw [e] at h2; exact absurd h2 c1
          · rw [e] at h2 h3
            have : ¬ σ.L v ≤ lab := c3 (by cases hk : σ.K v with | none => exact absurd hk h2 | some k => rfl)
            omega
        · omega
      · simp only [if_neg e]
        rcases hx b hbx with h1 | rfl
        · exact f.fr b hb hh hs h1
        · exact absurd ht e
    · rcases f.st with h1 | ⟨h1, h2⟩
      · exact .inl h1
      · by_cases e : s = v
        · subst e
          have : ¬ σ.L s ≤ lab := c3 (by cases hk : σ.K s with | none => exact absurd hk h1 | some k => rfl)
          omega
        · exact .inr ⟨by simp only [updK, if_neg e]; exact h1, by simp only [updD, if_neg e]; exact h2⟩
theorem Fe.exm {ex ex' : Nat → Prop} (f : Fe A s al pi σ ex) (h : ∀ a, a < A.length → ex a → ex' a) : Fe A s al pi σ ex' :=
  ⟨f.opt, fun a ha hh hs hx => f.fr a ha hh hs (fun he => hx (h a ha he)), f.st⟩
theorem Fe.scan1 {ex ex' : Nat → Prop} (f : Fe A s al pi σ ex) {a v : Nat} (hv : (A.getD a default).s = v) (hx : ∀ b, ¬ ex' b → ¬ ex b ∨ (b = a)) : Fe A s al pi (scan1 A al pi v σ a) ex' := by
  unfold Ab.scan1
  split
  · subst hv
    exact Fe.reach (σ := evS σ ⟨1, a, 0⟩) ⟨f.opt, f.fr, f.st⟩ rfl rfl hx
  · rename_i hal
    refine ⟨f.opt, fun b hb hh hs hbx => ?_, f.st⟩
    rcases hx b hbx with h | rfl
    · exact f.fr b hb hh hs h
    · exact absurd hh.1 hal
theorem Fe.scanL {v : Nat} : ∀ (l : List Nat) {σ : SS}, Fe A s al pi σ (· ∈ l) → (∀ a ∈ l, (A.getD a default).s = v) → Fe A s al pi (l.foldl (Ab.scan1 A al pi v) σ) (fun _ => False)
  | [], _, f, _ => f.exm (fun a _ h => by cases h)
  | a :: l, σ, f, hl => Fe.scanL l (f.scan1 (a := a) (hl a (by simp)) (fun b hb => by by_cases e : b = a; exact .inr e; exact .inl (by simp [e, hb]))) (fun b hb => hl b (by simp [hb]))
theorem Fe.next (f : Fe A s al pi σ (fun _ => False)) (h : Sv A N s al pi σ) (hF : Feas A al pi) {v : Nat} {k : Int} (hp : Pops σ.K v k) : Fe A s al pi (scanS A al pi v (closeS σ v)) (fun _ => False) :=
  Fe.scanL _ ((f.close h hF hp).exm fun a ha hs => mem_outs.2 ⟨ha, hs⟩) (fun a ha => (mem_outs.1 ha).2)
theorem ends_isD {to : Nat} {r : Fd} (hA : ∀ a ∈ A, a.t < N ∧ a.w ≤ WMAX) (hN : N ≤ 12) (hF : Feas A al pi) (he : Ends A al pi to σ r) : Sv A N s al pi σ → Fe A s al pi σ (fun _ => False) → to ∉ σ.O → IsD (hArcs A al pi) s to r.dist := by
  induction he with
  | none hn =>
    intro h f ht
    refine .inr ⟨rfl, fun w hw => ?_⟩
    rcases f.front h hF hw with h1 | ⟨y, h1, _⟩
    · exact ht h1
    · exact h1 (hn y)
  | @hit σ k hp =>
    intro h f ht
    have h1 := h.wk _ (Nat.le_refl _) (v := to) (.inr (by rw [hp.1]; nofun))
    have h2 := (h.bd to).1
    have h3 := Nat.mul_le_mul_right WMAX (Nat.le_trans h.len hN)
    have := FAR_eq
    have := WMAX_eq
    exact .inl ⟨by show σ.L to < FAR; omega, h1, (f.popped h hF hp).1⟩
  | @step σ v k r hp hne _ ih =>
    intro h f ht
    obtain ⟨h1, h2⟩ := h.next hA hp.1
    refine ih h1 (f.next h hF hp) ?_
    rw [h2.O]
    intro hm
    rcases List.mem_append.1 hm with hm | hm
    · exact ht hm
    · simp at hm; exact hne hm.symm
theorem hArcs_all {a : Arc} : a ∈ hArcs A (fun _ => true) (fun _ => 0) ↔ a ∈ A := by
  rw [mem_hArcs]
  constructor
  · rintro ⟨i, hi, _, rfl⟩
    rw [List.getD_eq_getElem?_getD, List.getElem?_eq_getElem hi]; exact List.getElem_mem hi
  · intro ha
    obtain ⟨i, hi, rfl⟩ := List.mem_iff_getElem.1 ha
    have := FAR_eq
    exact ⟨i, hi, ⟨rfl, by show (0 : Int) < _; omega, by show (0 : Int) < _; omega⟩, by simp [List.getD_eq_getElem?_getD, hi]⟩
theorem Wk.mono {B C : List Arc} (hm : ∀ a ∈ B, a ∈ C) {v w : Nat} (h : Wk B s v w) : Wk C s v w := by
  induction h with
  | nil => exact .nil
  | snoc ha _ ih => exact .snoc (hm _ ha) ih
theorem IsD.congr {B C : List Arc} (hm : ∀ a, a ∈ B ↔ a ∈ C) {v x : Nat} (h : IsD B s v x) : IsD C s v x := by
  rcases h with ⟨a, b, c⟩ | ⟨a, b⟩
  · exact .inl ⟨a, b.mono fun a => (hm a).1, fun w hw => c w (hw.mono fun a => (hm a).2)⟩
  · exact .inr ⟨a, fun w hw => b w (hw.mono fun a => (hm a).2)⟩
end
end Go.Ab

end
section
namespace Go.Ab
open Go.Proofs
set_option maxRecDepth 10000
open Tryz in
def Tryz.FFs1114 := aj a1 <| aj s1 <| aj z1 <| aj n1 <| aj u2 <| aj a2 <| aj s2 <| aj z2 <| aj i2 <| aj u3 <| aj a3 <| aj s3 <| aj z3 <| aj i3 <| aj u4 <| aj a4 <| aj s4 <| aj z4 <| aj n4 <| aj u5 <| aj a5 <| aj s5 <| aj z5 <| aj i5 <| aj u6 <| aj a6 <| aj s6 <| aj z6 <| aj i6 <| aj u25 <| aj a25 <| aj s25 <| aj z25 <| aj q25 <| aj n25 <| aj u33 <| aj a33 <| aj s33 <| aj z33 <| aj q33 <| aj i33 <| aj n33 <| aj u38 <| aj a38 <| aj s38 <| aj z38 <| aj q38 <| aj n38 <| aj u43 <| aj a43 <| aj s43 <| aj z43 <| aj q43 <| aj n43 <| aj u44 <| aj a44 <| aj s44 <| aj z44 <| aj q44 <| aj n44 <| aj u47 <| aj a47 <| aj s47 <| aj z47 <| aj i47 <| aj a51 <| aj s51 <| aj z51 <| aj i51 <| aj n51 <| aj p51 <| aj ff51 <| aj d51 <| aj a111 <| aj s111 <| aj z111 <| aj n111 <| aj u114 <| aj a114 <| aj s114 <| aj z114 <| aj q114 <| aj i114 <| aj n114 <| aj a165 <| aj s165 <| aj z165 <| aj i165 <| aj n165 <| aj p165 <| aj ff165 <| aj d165 <| aj u178 <| aj a178 <| aj s178 <| aj z178 <| aj q178 <| aj i178 <| aj n178 <| aj a180 <| aj s180 <| aj z180 <| aj n180 <| aj a182 <| aj s182 <| aj z182 <| aj i182 <| aj n182 <| aj p182 <| aj ff182 <| aj d182 <| aj a237 <| aj s237 <| aj z237 <| aj i237 <| aj n237 <| aj p237 <| aj ff237 <| aj d237 <| aj a239 <| aj s239 <| aj z239 <| aj i239 <| aj n239 <| aj p239 <| aj ff239 <| d239
def labC (N : Nat) (L : Nat → Nat) : List Value := (List.range N).map fun v => .int .i64 (L v : Nat)
def byI : List Nat → Int
  | [] => -1
  | a :: _ => (a : Nat)
def byC (N : Nat) (P : Nat → List Nat) : List Value := (List.range N).map fun v => .int .i64 (byI (P v))
def clC (N : Nat) (O : List Nat) : List Value := (List.range N).map fun v => .bool (decide (v ∈ O))
theorem labC_at {N v : Nat} {L : Nat → Nat} (h : v < N) : (labC N L)[v]? = some (.int .i64 (L v : Nat)) := mapr_at (F := fun v => Value.int .i64 ((L v : Nat) : Int)) h
theorem byC_at {N v : Nat} {P : Nat → List Nat} (h : v < N) : (byC N P)[v]? = some (.int .i64 (byI (P v))) := mapr_at (F := fun v => Value.int .i64 (byI (P v))) h
theorem clC_at {N v : Nat} {O : List Nat} (h : v < N) : (clC N O)[v]? = some (.bool (decide (v ∈ O))) := mapr_at (F := fun v => Value.bool (decide (v ∈ O))) h
theorem labC_len {N : Nat} {L : Nat → Nat} : (labC N L).length = N := by simp [labC]
theorem byC_len {N : Nat} {P : Nat → List Nat} : (byC N P).length = N := by simp [byC]
theorem clC_len {N : Nat} {O : List Nat} : (clC N O).length = N := by simp [clC]
theorem labC_set {N v x : Nat} {L : Nat → Nat} : (labC N L).set v (.int .i64 (x : Nat)) = labC N (updD L v x) := by
  have := mapr_set (N := N) (k := v) (F := fun v => Value.int .i64 ((L v : Nat) : Int)) (F' := fun u => Value.int .i64 ((updD L v x u : Nat) : Int)) (fun i _ hi => by simp [updD, hi])
  unfold labC
  rw [← this]; simp [updD]
theorem byC_set {N v : Nat} {P : Nat → List Nat} {p : List Nat} : (byC N P).set v (.int .i64 (byI p)) = byC N (updP P v p) := by
  have := mapr_set (N := N) (k := v) (F := fun v => Value.int .i64 (byI (P v))) (F' := fun u => Value.int .i64 (byI (updP P v p u))) (fun i _ hi => by simp [updP, hi])
  unfold byC
  rw [← this]; simp [updP]
theorem clC_set {N v : Nat} {O : List Nat} : (clC N O).set v (.bool true) = clC N (O ++ [v]) := by
  have := mapr_set (N := N) (k := v) (F := fun v => Value.bool (decide (v ∈ O))) (F' := fun u => Value.bool (decide (u ∈ O ++ [v]))) (fun i _ hi => by simp [hi])
  unfold clC
  rw [← this]; simp
def srL (br bl bb bk N : Nat) (pn p fal fpi vE : Value) (σ : SS) : List (Nat × Ob) :=
  [(br, .row [pn, p, .slice (some ⟨bl, 0, none⟩) N N, .slice (some ⟨bb, 0, none⟩) N N, .slice (some ⟨bk, 0, none⟩) N N, fal, fpi, vE] 1), (bl, .row (labC N σ.L) 1), (bb, .row (byC N σ.P) 1), (bk, .row (clC N σ.O) 1)]
def srG (vE : Value) (σ : SS) : List GL := [(vE, 4, σ.ev.flatMap encE)]
def SrAt (h : Hp) (B : List Nat) (br : Nat) (pn fal fpi : Value) (N : Nat) (σ : SS) : Prop :=
  ∃ bl bb bk p F vE, B = keys (srL br bl bb bk N pn (ptrTo p) fal fpi vE σ) (srG vE σ) ++ F ∧ (∀ q ∈ srL br bl bb bk N pn (ptrTo p) fal fpi vE σ, Has h q.1 q.2) ∧ GHas h (vE, 4, σ.ev.flatMap encE) ∧ (keys (srL br bl bb bk N pn (ptrTo p) fal fpi vE σ) (srG vE σ)).Nodup ∧ HeapAt h F (ptrTo p) N σ.K ∧ ∀ c ∈ F, c ∉ keys (srL br bl bb bk N pn (ptrTo p) fal fpi vE σ) (srG vE σ)
theorem St.ofHas {M : Nat → Prop} {h : Hp} {L : List (Nat × Ob)} {G : List GL} (ok : h.t.Sized h.n) (hL : ∀ q ∈ L, Has h q.1 q.2) (hG : ∀ p ∈ G, GHas h p) (nd : (keys L G).Nodup) (hM : ∀ c ∈ keys L G, M c) : St M h h L G :=
  ⟨Mo.refl ok, fun p hp => ⟨.inr (hM _ (mem_keys_L hp)), hL p hp⟩, fun p hp => ⟨hG p hp, fun b hb => .inr (hM _ (mem_keys_G hp hb))⟩, nd⟩
theorem SrAt.mo {M : Nat → Prop} {h h' : Hp} {B : List Nat} {br N : Nat} {pn fal fpi : Value} {σ : SS} (r : SrAt h B br pn fal fpi N σ) (g : Mo M h h') (hm : ∀ b ∈ B, ¬ M b) : SrAt h' B br pn fal fpi N σ := by
  obtain ⟨bl, bb, bk, p, F, vE, rfl, h1, h2, h3, h4, h5⟩ := r
  refine ⟨bl, bb, bk, p, F, vE, rfl, fun q hq => g.has (h1 q hq) (hm _ (List.mem_append_left _ (mem_keys_L hq))), h2.of_get fun b hb => g.get b (h2.lt g.ok0 hb) (hm b (List.mem_append_left _ (mem_keys_G (p := (vE, 4, σ.ev.flatMap encE)) m0 hb))), h3, h4.mo g (fun b hb => hm b (List.mem_append_right _ hb)), h5⟩
theorem SrAt.gr {h h' : Hp} {B : List Nat} {br N : Nat} {pn fal fpi : Value} {σ : SS} (r : SrAt h B br pn fal fpi N σ) (g : Gr h h') : SrAt h' B br pn fal fpi N σ := r.mo (M := NoM) g.fr (fun _ _ h => h)
theorem SrAt.lt {h : Hp} (ok : h.t.Sized h.n) {B : List Nat} {br N : Nat} {pn fal fpi : Value} {σ : SS} (r : SrAt h B br pn fal fpi N σ) : ∀ c ∈ B, c < h.n := by
  obtain ⟨bl, bb, bk, p, F, vE, rfl, h1, h2, h3, h4, h5⟩ := r
  intro c hc
  rcases List.mem_append.1 hc with hc | hc
  · exact (St.ofHas (M := fun _ => True) ok h1 (fun p hp => by cases hp with | head => exact h2 | tail _ h => cases h) h3 (fun _ _ => trivial)).key_lt hc
  · exact h4.lt ok c hc
theorem Gr.mo' {hq h h' : Hp} {B : List Nat} (g : Gr hq h) (f : Mo (· ∈ B) h h') (hB : ∀ c ∈ B, hq.n ≤ c) : Gr hq h' := ((g.fr (M := NoM)).trans f (fun i hi => .inr (hB i hi))).gr
def PiF (E : Env) (hq : Hp) (g : FuncId) (ba N : Nat) (pi : Nat → Int) : Prop := ∀ h, Gr hq h → ∀ v, v < N → Pure E g [.int .i64 (v : Nat), ptrTo ba] h (.int .i64 (pi v))
def AlF (E : Env) (hq : Hp) (g : FuncId) (ba n : Nat) (al : Nat → Bool) : Prop := ∀ h, Gr hq h → ∀ a, a < n → Pure E g [.int .i64 (a : Nat), ptrTo ba] h (.bool (al a))
theorem sreach_ok {hq h0 : Hp} (gq : Gr hq h0) {B : List Nat} {br N ba v lab : Nat} {p : List Nat} {g2 : FuncId} {pn fal : Value} {σ : SS} {pi : Nat → Int} (R : SrAt h0 B br pn fal (.func (.func g2) #[] #[ptrTo ba]) N σ) (hpi : PiF Tryz.abEnv hq g2 ba N pi) (hN : N ≤ 12) (hv : v < N) (hl : lab ≤ 12 * WMAX)
    (hp : -(FAR : Int) ≤ pi v) (hk : ∀ k, σ.K v = some k → k = σ.L v + pi v) :
    Ret Tryz.abEnv 114 [ptrTo br, .int .i64 (v : Nat), .int .i64 (lab : Nat), .int .i64 (byI p)] h0 fun _ h' => Mo (· ∈ B) h0 h' ∧ ∃ B', SrAt h' B' br pn fal (.func (.func g2) #[] #[ptrTo ba]) N (reachS pi σ v lab p) ∧ ∀ c ∈ B', c ∈ B ∨ h0.n ≤ c := by
  have ok := gq.ok
  have R0 := R
  obtain ⟨bl, bb, bk, ph, F, vE, rfl, hL, hG, nd, H, hF⟩ := R
  have S := St.ofHas (M := fun c => c ∈ keys (srL br bl bb bk N pn (ptrTo ph) fal (.func (.func g2) #[] #[ptrTo ba]) vE σ) (srG vE σ) ++ F) ok hL (fun p hp => by cases hp with | head => exact hG | tail _ h => cases h) nd (fun c hc => List.mem_append_left _ hc)
  have fr := FAR_eq
  have wm := WMAX_eq
  have same : reachS pi σ v lab p = σ → ∀ h, Gr h0 h → Mo (· ∈ keys (srL br bl bb bk N pn (ptrTo ph) fal (.func (.func g2) #[] #[ptrTo ba]) vE σ) (srG vE σ) ++ F) h0 h ∧ ∃ B', SrAt h B' br pn fal (.func (.func g2) #[] #[ptrTo ba]) N (reachS pi σ v lab p) ∧ ∀ c ∈ B', c ∈ keys (srL br bl bb bk N pn (ptrTo ph) fal (.func (.func g2) #[] #[ptrTo ba]) vE σ) (srG vE σ) ++ F ∨ h0.n ≤ c :=
    fun e h g => ⟨g.fr, _, by rw [e]; exact R0.gr g, fun c hc => .inl hc⟩
  generalize hBB : keys (srL br bl bb bk N pn (ptrTo ph) fal (.func (.func g2) #[] #[ptrTo ba]) vE σ) (srG vE σ) ++ F = BB at S same
  have hFB : ∀ c ∈ F, c ∈ BB ∨ h0.n ≤ c := fun c hc => .inl (by rw [← hBB]; exact List.mem_append_right _ hc)
  unfold srL srG at S
  have lF := H.lt ok
  have ll := fun {b} hb => S.key_lt (b := b) hb
  refine enter_ret (n := 86) (rs := []) rfl Tryz.e114 rfl rfl rfl (Nat.le_of_ble_eq_true rfl) ?_
  simp only [BS, Nat.reduceLT, Nat.reduceEqDiff, if_true, if_false, List.map_cons, List.map_nil, List.nil_append, List.cons_append, Nat.zero_add, eq_self, Tryz.FFs1114, S.ld (b := br) (o := 6) (by first | exact m0 | exact m1 | exact m2 | exact m3 | exact m4 | exact m5 | exact m6 | exact m7) rfl]
  refine step_pure (hpi _ gq v hv) ?_; intro h g; replace S := S.call g; replace H := H.gr g
  simp only [BS, Nat.reduceLT, Nat.reduceEqDiff, if_true, if_false, List.map_cons, List.map_nil, List.append_nil, List.nil_append, Nat.zero_add, eq_self, Tryz.FFs1114, S.ld (b := br) (o := 1) (by first | exact m0 | exact m1 | exact m2 | exact m3 | exact m4 | exact m5 | exact m6 | exact m7) rfl]
  refine step_pure (heapKey_ok S.ok H) ?_; intro h' g'; replace S := S.call g'; replace H := H.gr g'; replace g := g.trans g'; clear g' h
  have n0 := g.n
  have lk := (S.row (b := bk) m3).load1 (clC_at (O := σ.O) hv)
  have lL := (S.row (b := bl) m1).load1 (labC_at (L := σ.L) hv)
  by_cases hO : v ∈ σ.O
  · have dO : decide (v ∈ σ.O) = true := decide_eq_true hO
    simp only [BS, Nat.reduceLT, Nat.reduceEqDiff, if_true, if_false, List.getElem?_cons_zero, List.getElem?_cons_succ, Nat.mul_one, Nat.zero_add, Bool.not_true, eq_self, Tryz.FFs1114, hv, lk, dO, S.ld (b := br) (o := 4) (by first | exact m0 | exact m1 | exact m2 | exact m3 | exact m4 | exact m5 | exact m6 | exact m7) rfl, S.ld (b := br) (o := 2) (by first | exact m0 | exact m1 | exact m2 | exact m3 | exact m4 | exact m5 | exact m6 | exact m7) rfl]
    exact same (by unfold reachS; rw [if_pos (.inl hO)]) _ g
  · have dO : decide (v ∈ σ.O) = false := decide_eq_false hO
    by_cases hpF : (FAR : Int) ≤ pi v
    · have c1 : (72057594037927936 : Int) ≤ pi v := by omega
      simp only [BS, Nat.reduceLT, Nat.reduceEqDiff, if_true, if_false, List.getElem?_cons_zero, List.getElem?_cons_succ, Nat.mul_one, Nat.zero_add, Bool.not_true, Bool.not_false, decide_true, eq_self, Tryz.FFs1114, hv, lk, dO, c1, S.ld (b := br) (o := 4) (by first | exact m0 | exact m1 | exact m2 | exact m3 | exact m4 | exact m5 | exact m6 | exact m7) rfl, S.ld (b := br) (o := 2) (by first | exact m0 | exact m1 | exact m2 | exact m3 | exact m4 | exact m5 | exact m6 | exact m7) rfl]
      exact same (by unfold reachS; rw [if_pos (.inr (.inl hpF))]) _ g
    · have c1 : ¬ (72057594037927936 : Int) ≤ pi v := by omega
      have wl : wrapI .i64 ((lab : Int) + pi v) = (lab : Int) + pi v := by rw [wrap64] <;> omega
      have fin : ¬ ((σ.K v).isSome = true ∧ σ.L v ≤ lab) → ∀ (h' : Hp) (F' : List Nat), St (· ∈ BB) h0 h' [(br, .row [pn, ptrTo ph, .slice (some ⟨bl, 0, none⟩) N N, .slice (some ⟨bb, 0, none⟩) N N, .slice (some ⟨bk, 0, none⟩) N N, fal, .func (.func g2) #[] #[ptrTo ba], vE] 1), (bl, .row ((labC N σ.L).set v (.int .i64 (lab : Nat))) 1), (bb, .row ((byC N σ.P).set v (.int .i64 (byI p))) 1), (bk, .row (clC N σ.O) 1)] [(vE, 4, σ.ev.flatMap encE)] →
          HeapAt h' F' (ptrTo ph) N (updK σ.K v (some ((lab : Int) + pi v))) → (∀ c ∈ F', c ∈ F ∨ h0.n ≤ c) → Mo (· ∈ BB) h0 h' ∧ ∃ B', SrAt h' B' br pn fal (.func (.func g2) #[] #[ptrTo ba]) N (reachS pi σ v lab p) ∧ ∀ c ∈ B', c ∈ BB ∨ h0.n ≤ c := by
        intro hc h' F' T H' hF'
        rw [labC_set, byC_set] at T
        refine ⟨T.fr, keys (srL br bl bb bk N pn (ptrTo ph) fal (.func (.func g2) #[] #[ptrTo ba]) vE σ) (srG vE σ) ++ F', ?_, fun c hc => ?_⟩
        · unfold reachS
          rw [if_neg (by simp only [not_or]; exact ⟨hO, hpF, hc⟩)]
          refine ⟨bl, bb, bk, ph, F', vE, rfl, fun q hq => (T.own q hq).2, (T.gown _ m0).1, T.apart, H', fun c hc hm => ?_⟩
          rcases hF' c hc with h1 | h1
          · exact hF c h1 hm
          · have := ll (b := c) hm; omega
        · rcases List.mem_append.1 hc with hc | hc
          · exact .inl (by rw [← hBB]; exact List.mem_append_left _ hc)
          · rcases hF' c hc with h1 | h1
            · exact .inl (by rw [← hBB]; exact List.mem_append_right _ h1)
            · exact .inr h1
      have hne : ∀ F' : List Nat, (∀ c ∈ F', c ∈ F ∨ h0.n ≤ c) → ∀ c ∈ F', ¬ (c = bl) ∧ ¬ (c = bb) := fun F' h c hc => by
        rcases h c hc with h1 | h1
        · have := hF c h1
          simp [srL, keys] at this
          exact ⟨this.2.1, this.2.2.1⟩
        · have h2 := ll (b := bl) (by simp [keys])
          have h3 := ll (b := bb) (by simp [keys])
          exact ⟨fun e => by omega, fun e => by omega⟩
      have ap := S.apart
      have n1 : br ≠ bl := fun e => by subst e; simp [keys] at ap
      have n2 : br ≠ bb := fun e => by subst e; simp [keys] at ap
      have n3 : bl ≠ bb := fun e => by subst e; simp [keys] at ap
      clear ap
      cases hK : σ.K v with
      | none =>
        simp only [BS, Nat.reduceLT, Nat.reduceEqDiff, if_true, if_false, List.map_cons, List.map_nil, List.append_nil, List.nil_append, List.getElem?_cons_zero, List.getElem?_cons_succ, Nat.mul_one, Nat.zero_add, Bool.not_false, decide_false, eq_self, Tryz.FFs1114, hv, lk, dO, c1, Option.getD_none, Option.isSome_none, wl, S.ld (b := br) (o := 4) (by first | exact m0 | exact m1 | exact m2 | exact m3 | exact m4 | exact m5 | exact m6 | exact m7) rfl, S.ld (b := br) (o := 2) (by first | exact m0 | exact m1 | exact m2 | exact m3 | exact m4 | exact m5 | exact m6 | exact m7) rfl, S.ld (b := br) (o := 1) (by first | exact m0 | exact m1 | exact m2 | exact m3 | exact m4 | exact m5 | exact m6 | exact m7) rfl]
        refine step_ret (heapPush_ok S.ok H hv (by omega) hK) ?_
        rintro r h2 ⟨f2, F', H2, hF'⟩
        replace S := S.stepF f2 (fun c hc => ⟨hFB c hc, hF c hc⟩)
        replace hF' : ∀ c ∈ F', c ∈ F ∨ h0.n ≤ c := fun c hc => (hF' c hc).imp (fun h => h) (fun h => Nat.le_trans n0 h)
        clear lk lL
        simp only [BS]
        refine draw_step (hoist_no rfl) (q := 0) (ps := []) (by kernel_rfl) ?_
        simp only [BS, cls, Nat.reduceLT, Nat.reduceEqDiff, Nat.reduceAdd, if_true, if_false, Nat.reducePow, Nat.reduceDiv, Nat.reduceMod, Nat.reduceLeDiff, Bool.and_false, Nat.mul_one, Nat.zero_add, decide_false, eq_self, Tryz.FFs1114, hv, S.ld (b := br) (o := 2) (by first | exact m0 | exact m1 | exact m2 | exact m3 | exact m4 | exact m5 | exact m6 | exact m7) rfl, S.ld (b := br) (o := 3) (by first | exact m0 | exact m1 | exact m2 | exact m3 | exact m4 | exact m5 | exact m6 | exact m7) rfl]
        refine dn_u (store_fl S (i := 1) rfl Tryz.s2 fl_int (by rw [labC_len]; exact hv) Nat.one_ne_zero) ?_
        clear S; rintro h3 ⟨S, mo1⟩
        simp only [List.set_cons_zero, List.set_cons_succ] at S
        simp only [BS, cls, Nat.reduceLT, Nat.reduceEqDiff, Nat.reduceAdd, if_true, if_false, Nat.reducePow, Nat.reduceDiv, Nat.reduceMod, Nat.reduceLeDiff, Bool.and_false, Nat.mul_one, Nat.zero_add, decide_false, eq_self, Tryz.FFs1114, hv]
        refine dn_u (store_fl S (i := 2) rfl Tryz.s3 fl_int (by rw [byC_len]; exact hv) Nat.one_ne_zero) ?_
        clear S; rintro h4 ⟨S, mo2⟩
        simp only [List.set_cons_zero, List.set_cons_succ] at S
        simp only [BS, Nat.reduceAdd, true_and, eq_self]
        exact fin (by rw [hK]; simp) _ F' S ((H2.mo mo1 (fun c hc => (hne F' hF' c hc).1)).mo mo2 (fun c hc => (hne F' hF' c hc).2)) hF'
      | some k =>
        have ek := hk k hK
        by_cases hle : σ.L v ≤ lab
        · have c2 : (σ.L v : Int) ≤ (lab : Int) := by omega
          simp only [BS, Option.isSome_some, Nat.reduceLT, Nat.reduceEqDiff, if_true, if_false, List.getElem?_cons_zero, List.getElem?_cons_succ, Nat.mul_one, Nat.zero_add, Bool.not_false, decide_true, decide_false, eq_self, Tryz.FFs1114, hv, lk, dO, lL, c1, Option.getD_some, Option.isSome_some, c2, S.ld (b := br) (o := 4) (by first | exact m0 | exact m1 | exact m2 | exact m3 | exact m4 | exact m5 | exact m6 | exact m7) rfl, S.ld (b := br) (o := 2) (by first | exact m0 | exact m1 | exact m2 | exact m3 | exact m4 | exact m5 | exact m6 | exact m7) rfl]
          exact same (by unfold reachS; rw [if_pos (.inr (.inr ⟨by rw [hK]; rfl, hle⟩))]) _ g
        · have c2 : ¬ (σ.L v : Int) ≤ (lab : Int) := by omega
          simp only [BS, Option.isSome_some, Nat.reduceLT, Nat.reduceEqDiff, if_true, if_false, List.map_cons, List.map_nil, List.append_nil, List.nil_append, List.getElem?_cons_zero, List.getElem?_cons_succ, Nat.mul_one, Nat.zero_add, Bool.not_false, decide_false, eq_self, Tryz.FFs1114, hv, lk, dO, lL, c1, Option.getD_some, Option.isSome_some, c2, wl, S.ld (b := br) (o := 4) (by first | exact m0 | exact m1 | exact m2 | exact m3 | exact m4 | exact m5 | exact m6 | exact m7) rfl, S.ld (b := br) (o := 2) (by first | exact m0 | exact m1 | exact m2 | exact m3 | exact m4 | exact m5 | exact m6 | exact m7) rfl, S.ld (b := br) (o := 1) (by first | exact m0 | exact m1 | exact m2 | exact m3 | exact m4 | exact m5 | exact m6 | exact m7) rfl]
          refine step_ret (heapLower_ok S.ok H (by omega) hK (k := (lab : Int) + pi v) (by omega)) ?_
          rintro r h2 ⟨f2, H2⟩
          replace S := S.stepF f2 (fun c hc => ⟨hFB c hc, hF c hc⟩)
          have hF' : ∀ c ∈ F, c ∈ F ∨ h0.n ≤ c := fun c hc => .inl hc
          clear lk lL
          simp only [BS]
          refine draw_step (hoist_no rfl) (q := 0) (ps := []) (by kernel_rfl) ?_
          simp only [BS, cls, Nat.reduceLT, Nat.reduceEqDiff, Nat.reduceAdd, if_true, if_false, Nat.reducePow, Nat.reduceDiv, Nat.reduceMod, Nat.reduceLeDiff, Bool.and_false, Nat.mul_one, Nat.zero_add, decide_false, eq_self, Tryz.FFs1114, hv, S.ld (b := br) (o := 2) (by first | exact m0 | exact m1 | exact m2 | exact m3 | exact m4 | exact m5 | exact m6 | exact m7) rfl, S.ld (b := br) (o := 3) (by first | exact m0 | exact m1 | exact m2 | exact m3 | exact m4 | exact m5 | exact m6 | exact m7) rfl]
          refine dn_u (store_fl S (i := 1) rfl Tryz.s2 fl_int (by rw [labC_len]; exact hv) Nat.one_ne_zero) ?_
          clear S; rintro h3 ⟨S, mo1⟩
          simp only [List.set_cons_zero, List.set_cons_succ] at S
          simp only [BS, cls, Nat.reduceLT, Nat.reduceEqDiff, Nat.reduceAdd, if_true, if_false, Nat.reducePow, Nat.reduceDiv, Nat.reduceMod, Nat.reduceLeDiff, Bool.and_false, Nat.mul_one, Nat.zero_add, decide_false, eq_self, Tryz.FFs1114, hv]
          refine dn_u (store_fl S (i := 2) rfl Tryz.s3 fl_int (by rw [byC_len]; exact hv) Nat.one_ne_zero) ?_
          clear S; rintro h4 ⟨S, mo2⟩
          simp only [List.set_cons_zero, List.set_cons_succ] at S
          simp only [BS, Nat.reduceAdd, true_and, eq_self]
          exact fin (by rw [hK]; simp; omega) _ F S ((H2.mo mo1 (fun c hc => (hne F hF' c hc).1)).mo mo2 (fun c hc => (hne F hF' c hc).2)) hF'
end Go.Ab

end
section
namespace Go.Ab
open Go.Proofs
set_option maxRecDepth 10000
open Tryz in
def Tryz.FFs2119 := aj a1 <| aj s1 <| aj z1 <| aj n1 <| aj u2 <| aj a2 <| aj s2 <| aj z2 <| aj i2 <| aj u3 <| aj a3 <| aj s3 <| aj z3 <| aj i3 <| aj u4 <| aj a4 <| aj s4 <| aj z4 <| aj n4 <| aj u5 <| aj a5 <| aj s5 <| aj z5 <| aj i5 <| aj u6 <| aj a6 <| aj s6 <| aj z6 <| aj i6 <| aj a7 <| aj s7 <| aj z7 <| aj i7 <| aj n7 <| aj p7 <| aj ff7 <| aj d7 <| aj u25 <| aj a25 <| aj s25 <| aj z25 <| aj q25 <| aj n25 <| aj a31 <| aj s31 <| aj z31 <| aj i31 <| aj n31 <| aj p31 <| aj ff31 <| aj d31 <| aj u33 <| aj a33 <| aj s33 <| aj z33 <| aj q33 <| aj i33 <| aj n33 <| aj u38 <| aj a38 <| aj s38 <| aj z38 <| aj q38 <| aj n38 <| aj u43 <| aj a43 <| aj s43 <| aj z43 <| aj q43 <| aj n43 <| aj u44 <| aj a44 <| aj s44 <| aj z44 <| aj q44 <| aj n44 <| aj a51 <| aj s51 <| aj z51 <| aj i51 <| aj n51 <| aj p51 <| aj ff51 <| aj d51 <| aj a56 <| aj s56 <| aj z56 <| aj i56 <| aj n56 <| aj p56 <| aj ff56 <| aj d56 <| aj a111 <| aj s111 <| aj z111 <| aj n111 <| aj u114 <| aj a114 <| aj s114 <| aj z114 <| aj q114 <| aj i114 <| aj n114 <| aj u163 <| aj a163 <| aj s163 <| aj z163 <| aj q163 <| aj n163 <| aj a165 <| aj s165 <| aj z165 <| aj i165 <| aj n165 <| aj p165 <| aj ff165 <| aj d165 <| aj u178 <| aj a178 <| aj s178 <| aj z178 <| aj q178 <| aj i178 <| aj n178 <| aj a180 <| aj s180 <| aj z180 <| aj n180 <| aj a182 <| aj s182 <| aj z182 <| aj i182 <| aj n182 <| aj p182 <| aj ff182 <| aj d182 <| aj a239 <| aj s239 <| aj z239 <| aj i239 <| aj n239 <| aj p239 <| aj ff239 <| d239
theorem SrAt.close {M : Nat → Prop} {h0 h : Hp} {br bl bb bk ph N : Nat} {F : List Nat} {pn fal fpi vE : Value} {σ : SS} (S : St M h0 h (srL br bl bb bk N pn (ptrTo ph) fal fpi vE σ) (srG vE σ)) (H : HeapAt h F (ptrTo ph) N σ.K) (hF : ∀ c ∈ F, c ∉ keys (srL br bl bb bk N pn (ptrTo ph) fal fpi vE σ) (srG vE σ)) :
    SrAt h (keys (srL br bl bb bk N pn (ptrTo ph) fal fpi vE σ) (srG vE σ) ++ F) br pn fal fpi N σ :=
  ⟨bl, bb, bk, ph, F, vE, rfl, fun q hq => (S.own q hq).2, (S.gown _ m0).1, S.apart, H, hF⟩
theorem SrAt.open {h : Hp} (ok : h.t.Sized h.n) {B : List Nat} {br N : Nat} {pn fal fpi : Value} {σ : SS} (r : SrAt h B br pn fal fpi N σ) : ∃ bl bb bk ph F vE, B = keys (srL br bl bb bk N pn (ptrTo ph) fal fpi vE σ) (srG vE σ) ++ F ∧ St (· ∈ B) h h (srL br bl bb bk N pn (ptrTo ph) fal fpi vE σ) (srG vE σ) ∧ HeapAt h F (ptrTo ph) N σ.K ∧ ∀ c ∈ F, c ∉ keys (srL br bl bb bk N pn (ptrTo ph) fal fpi vE σ) (srG vE σ) := by
  obtain ⟨bl, bb, bk, ph, F, vE, rfl, h1, h2, h3, h4, h5⟩ := r
  exact ⟨bl, bb, bk, ph, F, vE, rfl, St.ofHas ok h1 (fun p hp => by cases hp with | head => exact h2 | tail _ h => cases h) h3 (fun c hc => List.mem_append_left _ hc), h4, h5⟩
theorem ev_reach (pi : Nat → Int) (σ : SS) (v lab : Nat) (p : List Nat) : (reachS pi σ v lab p).ev = σ.ev := by
  unfold reachS; split <;> rfl
theorem ev_scan1 (A : List Arc) (al : Nat → Bool) (pi : Nat → Int) (v : Nat) (σ : SS) (a : Nat) : (scan1 A al pi v σ a).ev.length ≤ σ.ev.length + 1 := by
  unfold scan1
  split
  · rw [ev_reach]; simp [evS]
  · omega
theorem sscan_ok {hq h0 : Hp} (okq : hq.t.Sized hq.n) (gq : Gr hq h0) {γ : Gra} (hγ : Good γ) {nb bp : Nat} (hn : NetAt hq nb (ptrTo bp) γ) {B : List Nat} {br ba v s : Nat} {g1 g2 : FuncId} {σ : SS} {al : Nat → Bool} {pi : Nat → Int} (R : SrAt h0 B br (ptrTo bp) (.func (.func g1) #[] #[ptrTo ba]) (.func (.func g2) #[] #[ptrTo ba]) γ.nodes σ) (hB : ∀ c ∈ B, hq.n ≤ c) (hal : AlF Tryz.abEnv hq g1 ba γ.arcs.length al) (hpi : PiF Tryz.abEnv hq g2 ba γ.nodes pi) (hp : ∀ v, v < γ.nodes → -(FAR : Int) ≤ pi v)
    (hv : v < γ.nodes) (sv : Sv γ.arcs γ.nodes s al pi σ) (rm : Room σ v) (he : σ.ev.length ≤ 10000) :
    Ret Tryz.abEnv 119 [ptrTo br, .int .i64 (v : Nat)] h0 fun _ h' => Mo (· ∈ B) h0 h' ∧ ∃ B', SrAt h' B' br (ptrTo bp) (.func (.func g1) #[] #[ptrTo ba]) (.func (.func g2) #[] #[ptrTo ba]) γ.nodes (scanS γ.arcs al pi v σ) ∧ ∀ c ∈ B', c ∈ B ∨ h0.n ≤ c := by
  have ok := gq.ok
  have n1 := hγ.n1
  have n2 := hγ.n2
  have wm := WMAX_eq
  have hA : ∀ a ∈ γ.arcs, a.t < γ.nodes ∧ a.w ≤ WMAX := fun a ha => ⟨(hγ.arcs a ha).2.1, (hγ.arcs a ha).2.2⟩
  have l0 : h0.load br 0 1 = some [ptrTo bp] := by
    obtain ⟨bl, bb, bk, ph, F, vE, rfl, h1, _⟩ := R
    exact Row.load1 (show Row h0 br _ 1 from h1 _ m0) (o := 0) rfl
  have S := St.init (M := NoM) ok
  refine enter_ret (n := 62) (rs := []) rfl Tryz.e119 rfl rfl rfl (Nat.le_of_ble_eq_true rfl) ?_
  simp only [BS, Nat.add_zero, Nat.reduceLT, Nat.reduceEqDiff, if_true, if_false, List.map_cons, List.map_nil, List.append_nil, List.nil_append, eq_self, Tryz.FFs2119, l0]
  refine step_ret (netOut_ok S.ok (hn.gr gq) (by have := hγ.many; omega) hv) ?_
  rintro vl h1 ⟨g, sl, hc⟩
  have lB := R.lt ok
  have R1 := R.gr g
  have ok1 := g.ok
  have ol := outs_len γ.arcs Arc.s γ.arcs.length v
  have many := hγ.many
  have n01 := g.n
  simp only [BS, Nat.reduceLT, Nat.reduceEqDiff, if_true, if_false, eq_self, Tryz.FFs2119, sl.lenq]
  refine loop_ind (fun (i : Nat) ρ h => i ≤ (outs γ.arcs Arc.s γ.arcs.length v).length ∧ ∃ B', Mo (· ∈ B) h1 h ∧ SrAt h B' br (ptrTo bp) (.func (.func g1) #[] #[ptrTo ba]) (.func (.func g2) #[] #[ptrTo ba]) γ.nodes (((outs γ.arcs Arc.s γ.arcs.length v).take i).foldl (scan1 γ.arcs al pi v) σ) ∧ (∀ c ∈ B', c ∈ B ∨ h1.n ≤ c) ∧
      ρ 0 = ptrTo br ∧ ρ 1 = .int .i64 (v : Nat) ∧ ρ 13 = vl ∧ ρ 14 = .int .i64 ((outs γ.arcs Arc.s γ.arcs.length v).length : Nat) ∧ ρ 15 = .int .i64 i) (fun i => (outs γ.arcs Arc.s γ.arcs.length v).length - i) ?_ 0 _ _ ?_
  · clear S l0
    intro i ih ρ hS ⟨hi, B', f, R', hB', r0, r1, r13, r14, r15⟩
    by_cases hlt : i < (outs γ.arcs Arc.s γ.arcs.length v).length
    · have hBq : ∀ c ∈ B', hq.n ≤ c := fun c hc => (hB' c hc).elim (hB c) (fun h => by have := gq.n; omega)
      have gh : Gr hq hS := (gq.trans g).mo' f hB
      have slh := sl.mo f (fun b hb hm => by have := hc b hb; have := lB b hm; omega)
      obtain ⟨c, o, hidx, hld⟩ := slh.ix (kd := .i64) encN_len hlt
      have hm := mem_outs.1 (List.getElem_mem hlt)
      have w : wrapI .i64 ((i : Int) + 1) = ((i + 1 : Nat) : Int) := by rw [wrap64] <;> omega
      have hl2 : ∀ a ∈ (outs γ.arcs Arc.s γ.arcs.length v).take i, a < γ.arcs.length ∧ (γ.arcs.getD a default).s = v := fun a ha => mem_outs.1 (List.mem_of_mem_take ha)
      obtain ⟨svi, ki⟩ := Sv.scanL hA _ sv rm hl2
      have rmi := rm.keeps ki
      have evi : (((outs γ.arcs Arc.s γ.arcs.length v).take i).foldl (scan1 γ.arcs al pi v) σ).ev.length ≤ 10000 + i := by
        have : ∀ (l : List Nat) (σ : SS), (l.foldl (scan1 γ.arcs al pi v) σ).ev.length ≤ σ.ev.length + l.length := by
          intro l
          induction l with
          | nil => intro σ; simp
          | cons a l ih => intro σ; have h1 := ih (scan1 γ.arcs al pi v σ a); have h2 := ev_scan1 γ.arcs al pi v σ a; simp only [List.foldl_cons, List.length_cons]; omega
        have h1 := this ((outs γ.arcs Arc.s γ.arcs.length v).take i) σ
        rw [List.length_take] at h1
        omega
      have tk : (outs γ.arcs Arc.s γ.arcs.length v).take (i + 1) = (outs γ.arcs Arc.s γ.arcs.length v).take i ++ [(outs γ.arcs Arc.s γ.arcs.length v)[i]] := by rw [List.take_add_one, List.getElem?_eq_getElem hlt]; rfl
      have nxt : ((outs γ.arcs Arc.s γ.arcs.length v).take (i + 1)).foldl (scan1 γ.arcs al pi v) σ = scan1 γ.arcs al pi v (((outs γ.arcs Arc.s γ.arcs.length v).take i).foldl (scan1 γ.arcs al pi v) σ) (outs γ.arcs Arc.s γ.arcs.length v)[i] := by rw [tk, List.foldl_append]; rfl
      generalize (((outs γ.arcs Arc.s γ.arcs.length v).take i).foldl (scan1 γ.arcs al pi v) σ) = σi at R' svi ki rmi evi nxt
      generalize (outs γ.arcs Arc.s γ.arcs.length v)[i] = a at hm hld nxt
      obtain ⟨ha, hsv⟩ := hm
      obtain ⟨bl, bb, bk, ph, F, vE, hBe, S, H, hF⟩ := R'.open f.ok
      have lB' := R'.lt f.ok
      have hk0 : ∀ c ∈ keys (srL br bl bb bk γ.nodes (ptrTo bp) (ptrTo ph) (.func (.func g1) #[] #[ptrTo ba]) (.func (.func g2) #[] #[ptrTo ba]) vE σi) (srG vE σi), c ∈ B' := fun c hc => by rw [hBe]; exact List.mem_append_left _ hc
      have hk1 : ∀ c ∈ F, c ∈ B' := fun c hc => by rw [hBe]; exact List.mem_append_right _ hc
      have lF := H.lt f.ok
      replace S := S.base
      generalize hKK : keys (srL br bl bb bk γ.nodes (ptrTo bp) (ptrTo ph) (.func (.func g1) #[] #[ptrTo ba]) (.func (.func g2) #[] #[ptrTo ba]) vE σi) (srG vE σi) = KK at S hk0 hF hBe
      unfold srL srG at S
      simp only [BS, Nat.reduceLT, Nat.reduceEqDiff, if_true, if_false, List.map_cons, List.map_nil, List.nil_append, List.cons_append, Nat.zero_add, decide_true, eq_self, Tryz.FFs2119, r0, r13, r14, r15, lt_nat, hlt, hidx, hld, encN, S.ld (b := br) (o := 5) (by first | exact m0 | exact m1 | exact m2 | exact m3 | exact m4 | exact m5 | exact m6 | exact m7) rfl]
      refine step_pure (hal _ gh a ha) ?_; intro h' g'; replace S := S.call g'
      have nh' := g'.n
      cases hala : al a with
      | false =>
        simp only [BS, Nat.reduceLT, Nat.reduceEqDiff, if_true, if_false, Bool.not_false, eq_self, r15, w]
        refine ih (i + 1) _ _ (by omega) ⟨by omega, B', f.trans (M' := NoM) g'.fr (fun _ h => h.elim), ?_, hB', by simp [setR, r0, ptr_eq], by simp [setR, r1], by simp [setR, r13], by simp [setR, r14], by simp [setR]⟩
        rw [nxt]
        unfold scan1
        rw [hala, if_neg Bool.false_ne_true]
        exact R'.gr g'
      | true =>
        have fvE : Fl vE := (S.gown _ m0).1.fl
        simp only [BS, Option.isSome_some, Nat.reduceLT, Nat.reduceEqDiff, Nat.reduceAdd, if_true, if_false, List.map_cons, List.map_nil, List.length_cons, List.length_nil, List.set_cons_zero, List.set_cons_succ, List.getElem?_cons_zero, List.getElem?_cons_succ, Nat.zero_add, Bool.not_true, eq_self, Tryz.FFs2119, r0, S.ld (b := br) (o := 7) (by first | exact m0 | exact m1 | exact m2 | exact m3 | exact m4 | exact m5 | exact m6 | exact m7) rfl]
        refine step_newS (bs_new (by first | exact Tryz.u25 | exact Tryz.u38 | exact Tryz.u43 | exact Tryz.u44 | exact Tryz.u163) (by first | exact Tryz.e2E | exact Tryz.e3E | exact Tryz.e4E | exact Tryz.e43E | exact Tryz.e51E) (by decide) (by first | rfl | exact fillE )) S ?_; clear S; intro h bs S n_bs; simp only [repL, setL, vcells, List.cons_append, List.nil_append, List.append_nil, List.set_cons_zero, List.set_cons_succ, Nat.reduceMul, Nat.reduceAdd, Nat.zero_mul, Nat.zero_add, Nat.mul_one, Nat.one_mul] at S
        simp only [BS, Nat.reduceLT, Nat.reduceEqDiff, if_true, if_false, eq_self]
        have src : srcCells h 4 (.slice (some ⟨bs, 0, none⟩) 1 1) = some (1, encE ⟨1, a, 0⟩) := by simp only [srcCells]; rw [S.lds (b := bs) (o := 0) (n := 1 * 4) m0 (Nat.le_of_ble_eq_true rfl)]; rfl
        replace S := S.drop1
        refine step_v (S.grow (j := 0) (m := 1) (new := encE ⟨1, a, 0⟩) rfl Tryz.u44 Tryz.e51E (by decide) Tryz.n44 src rfl (by decide) rfl (by rw [flatMap_len encE_len]; show (_ + 4) * _ ≤ _; omega)) ?_
        clear S src; rintro h2 vE' S
        simp only [List.set_cons_zero] at S
        have fvE' : Fl vE' := (S.gown _ m0).1.fl
        simp only [BS, Nat.reduceLT, Nat.reduceEqDiff, if_true, if_false, Nat.zero_add, eq_self, Tryz.FFs2119]
        refine step_u (store_fl S (i := 0) rfl Tryz.s44 fvE' (Nat.lt_of_succ_le (Nat.le_of_ble_eq_true rfl)) Nat.one_ne_zero) ?_
        clear S; rintro h3 ⟨S, _⟩
        simp only [List.set_cons_zero, List.set_cons_succ] at S
        have eE : (σi.ev ++ [(⟨1, a, 0⟩ : Ev)]).flatMap encE = σi.ev.flatMap encE ++ encE ⟨1, a, 0⟩ := by rw [List.flatMap_append]; simp
        rw [← eE] at S
        simp only [BS, Nat.add_zero, Nat.reduceLT, Nat.reduceEqDiff, if_true, if_false, List.map_cons, List.map_nil, List.append_nil, List.nil_append, eq_self, Tryz.FFs2119, r0, S.ld (b := br) (o := 0) (by first | exact m0 | exact m1 | exact m2 | exact m3 | exact m4 | exact m5 | exact m6 | exact m7) rfl]
        have hKq : ∀ c ∈ KK, hq.n ≤ c := fun c hc => hBq c (hk0 c hc)
        refine step_ret (netArc_ok S.ok (hn.gr (gh.mo' S.fr hKq)) ha) ?_
        rintro rv h4 ⟨g4, rfl⟩
        replace S := S.call g4; clear g4
        have ga : γ.arcs[a] = γ.arcs.getD a default := by simp [List.getD_eq_getElem?_getD, ha]
        have aok := hA (γ.arcs.getD a default) (by rw [← ga]; exact List.getElem_mem ha)
        have lv := rmi.2.1
        have ol2 : σi.O.length * WMAX ≤ 12 * WMAX := Nat.mul_le_mul_right _ (Nat.le_trans svi.len n2)
        rw [ga]
        simp only [BS, Nat.reduceLT, Nat.reduceEqDiff, if_true, if_false, eq_self, Tryz.FFs2119, encA]
        refine step_newS allocR_new S ?_; clear S; intro h b6 S n_b6
        simp only [BS, Nat.reduceLT, Nat.reduceEqDiff, if_true, if_false, eq_self]
        first | refine step_u (S.store (i := 0) rfl ?_ ?_ rfl rfl ?_ Nat.one_ne_zero) ?_ | refine step_u (S.store (i := 1) rfl ?_ ?_ rfl rfl ?_ Nat.one_ne_zero) ?_ | refine step_u (S.store (i := 2) rfl ?_ ?_ rfl rfl ?_ Nat.one_ne_zero) ?_ | refine step_u (S.store (i := 3) rfl ?_ ?_ rfl rfl ?_ Nat.one_ne_zero) ?_ | refine step_u (S.store (i := 4) rfl ?_ ?_ rfl rfl ?_ Nat.one_ne_zero) ?_ | refine step_u (S.store (i := 5) rfl ?_ ?_ rfl rfl ?_ Nat.one_ne_zero) ?_ | refine step_u (S.store (i := 6) rfl ?_ ?_ rfl rfl ?_ Nat.one_ne_zero) ?_ | refine step_u (S.store (i := 7) rfl ?_ ?_ rfl rfl ?_ Nat.one_ne_zero) ?_
        · exact (by first | exact Tryz.s7 | exact Tryz.s31 | exact Tryz.s51 | exact Tryz.s56 | exact Tryz.s165 | exact Tryz.s182 | exact Tryz.s239)
        · exact (by intro x e; cases e)
        · exact Nat.le_of_ble_eq_true rfl
        clear S; rintro h ⟨S, mo⟩; clear mo; simp only [List.set_cons_zero, List.set_cons_succ, vcells, lay, List.take, List.drop, List.nil_append, List.cons_append, List.append_nil, List.length_cons, List.length_nil, Nat.reduceAdd, Nat.add_zero] at S
        simp only [BS, Nat.reduceLT, Nat.reduceEqDiff, if_true, if_false, eq_self]
        have lL := (S.row (b := bl) m2).load1 (labC_at (L := σi.L) hv)
        have wn : wrapI .i64 ((σi.L v : Int) + ((γ.arcs.getD a default).w : Int)) = ((σi.L v + (γ.arcs.getD a default).w : Nat) : Int) := by rw [wrap64] <;> omega
        refine draw_step (hoist_no rfl) (q := 0) (ps := []) (by kernel_rfl) ?_
        simp only [BS, cls, Nat.reduceLT, Nat.reduceEqDiff, Nat.reduceAdd, if_true, if_false, List.map_cons, List.map_nil, List.append_nil, List.nil_append, Nat.reducePow, Nat.reduceDiv, Nat.reduceMod, Nat.reduceLeDiff, Bool.and_true, Bool.and_false, Nat.mul_one, Nat.zero_add, decide_true, decide_false, eq_self, Tryz.FFs2119, r0, r1, wn, hv, lL, S.ld (b := br) (o := 2) (by first | exact m0 | exact m1 | exact m2 | exact m3 | exact m4 | exact m5 | exact m6 | exact m7) rfl, S.ld (b := b6) (o := 1) (by first | exact m0 | exact m1 | exact m2 | exact m3 | exact m4 | exact m5 | exact m6 | exact m7) rfl, S.ld (b := b6) (o := 2) (by first | exact m0 | exact m1 | exact m2 | exact m3 | exact m4 | exact m5 | exact m6 | exact m7) rfl]
        have kn := fun c hc => (S.key_own (b := c) hc).symm
        have kf := S.fr
        have gx := gh.mo' S.fr hKq
        have hF2 : ∀ c ∈ F, c ∉ keys (srL br bl bb bk γ.nodes (ptrTo bp) (ptrTo ph) (.func (.func g1) #[] #[ptrTo ba]) (.func (.func g2) #[] #[ptrTo ba]) vE' (evS σi ⟨1, a, 0⟩)) (srG vE' (evS σi ⟨1, a, 0⟩)) := fun c hc hm => by
          rcases kn c (List.mem_cons_of_mem _ hm) with h1 | h1
          · exact hF c hc h1
          · have := lF c hc; omega
        have R2 := SrAt.close (σ := evS σi ⟨1, a, 0⟩) (vE := vE') S.drop1 (H.mo kf (fun c hc hm => hF c hc hm)) hF2
        have hB2 : ∀ c ∈ keys (srL br bl bb bk γ.nodes (ptrTo bp) (ptrTo ph) (.func (.func g1) #[] #[ptrTo ba]) (.func (.func g2) #[] #[ptrTo ba]) vE' (evS σi ⟨1, a, 0⟩)) (srG vE' (evS σi ⟨1, a, 0⟩)) ++ F, c ∈ B' ∨ hS.n ≤ c := fun c hc => by
          rcases List.mem_append.1 hc with hc | hc
          · exact (kn c (List.mem_cons_of_mem _ hc)).imp (hk0 c) (fun h => h)
          · exact .inl (hk1 c hc)
        refine dn_ret (sreach_ok (p := a :: σi.P v) (lab := σi.L v + (γ.arcs.getD a default).w) gx R2 hpi n2 aok.1 (by omega) (hp _ aok.1) (fun k hk => (svi.op _ k hk).2.2.2)) ?_
        rintro rv h5 ⟨f5, B3, R3, hB3⟩
        simp only [BS, Nat.reduceLT, Nat.reduceEqDiff, Nat.reduceAdd, if_true, if_false, true_and, eq_self, r15, w]
        have nh := f.n
        have nx := kf.n
        have gB : ∀ c, c ∈ B' ∨ hS.n ≤ c → c ∈ B ∨ h1.n ≤ c := fun c hc => hc.elim (hB' c) (fun h => .inr (by omega))
        refine ih (i + 1) _ _ (by omega) ⟨by omega, B3, (f.trans kf (fun c hc => gB c (.inl (hk0 c hc)))).trans f5 (fun c hc => gB c (hB2 c hc)), ?_, fun c hc => gB c ((hB3 c hc).elim (hB2 c) (fun h => .inr (by omega))), by simp [setR, r0, ptr_eq], by simp [setR, r1], by simp [setR, r13], by simp [setR, r14], by simp [setR]⟩
        rw [nxt]
        unfold scan1
        rw [hala, if_pos rfl]
        exact R3
    · have ei : i = (outs γ.arcs Arc.s γ.arcs.length v).length := by omega
      simp only [BS, Nat.reduceLT, if_true, decide_false, eq_self, r14, r15, lt_nat, hlt]
      refine ⟨(g.fr (M := (· ∈ B))).trans f (fun c hc => .inl hc), B', ?_, fun c hc => (hB' c hc).imp (fun h => h) (fun h => by omega)⟩
      rw [ei, List.take_length] at R'
      exact R'
  · exact ⟨Nat.zero_le _, B, Mo.refl ok1, R1, fun c hc => .inl hc, by simp [setR, argR_zero, ptr_eq], by simp [setR, argR_zero, argR_succ], by simp [setR], by simp [setR], by simp [setR]⟩
end Go.Ab

end
section
namespace Go.Ab
open Go.Proofs
set_option maxRecDepth 10000
open Tryz in
def Tryz.FFs3177 := aj a1 <| aj s1 <| aj z1 <| aj n1 <| aj u2 <| aj a2 <| aj s2 <| aj z2 <| aj i2 <| aj u3 <| aj a3 <| aj s3 <| aj z3 <| aj i3 <| aj u4 <| aj a4 <| aj s4 <| aj z4 <| aj n4 <| aj u6 <| aj a6 <| aj s6 <| aj z6 <| aj i6 <| aj a7 <| aj s7 <| aj z7 <| aj i7 <| aj n7 <| aj p7 <| aj ff7 <| aj d7 <| aj u43 <| aj a43 <| aj s43 <| aj z43 <| aj q43 <| aj n43 <| aj a145 <| aj s145 <| aj z145 <| n145
open Tryz in
def Tryz.FFs3178 := aj a1 <| aj s1 <| aj z1 <| aj n1 <| aj u2 <| aj a2 <| aj s2 <| aj z2 <| aj i2 <| aj u3 <| aj a3 <| aj s3 <| aj z3 <| aj i3 <| aj u4 <| aj a4 <| aj s4 <| aj z4 <| aj n4 <| aj u25 <| aj a25 <| aj s25 <| aj z25 <| aj q25 <| aj n25 <| aj a31 <| aj s31 <| aj z31 <| aj i31 <| aj n31 <| aj p31 <| aj ff31 <| aj d31 <| aj u33 <| aj a33 <| aj s33 <| aj z33 <| aj q33 <| aj i33 <| aj n33 <| aj u38 <| aj a38 <| aj s38 <| aj z38 <| aj q38 <| aj n38 <| aj u43 <| aj a43 <| aj s43 <| aj z43 <| aj q43 <| aj n43 <| aj u44 <| aj a44 <| aj s44 <| aj z44 <| aj q44 <| aj n44 <| aj a51 <| aj s51 <| aj z51 <| aj i51 <| aj n51 <| aj p51 <| aj ff51 <| aj d51 <| aj a56 <| aj s56 <| aj z56 <| aj i56 <| aj n56 <| aj p56 <| aj ff56 <| aj d56 <| aj a111 <| aj s111 <| aj z111 <| aj n111 <| aj u114 <| aj a114 <| aj s114 <| aj z114 <| aj q114 <| aj i114 <| aj n114 <| aj u163 <| aj a163 <| aj s163 <| aj z163 <| aj q163 <| aj n163 <| aj a165 <| aj s165 <| aj z165 <| aj i165 <| aj n165 <| aj p165 <| aj ff165 <| aj d165 <| aj u178 <| aj a178 <| aj s178 <| aj z178 <| aj q178 <| aj i178 <| aj n178 <| aj a180 <| aj s180 <| aj z180 <| aj n180 <| aj a182 <| aj s182 <| aj z182 <| aj i182 <| aj n182 <| aj p182 <| aj ff182 <| aj d182 <| aj a239 <| aj s239 <| aj z239 <| aj i239 <| aj n239 <| aj p239 <| aj ff239 <| d239
def IterW (E : Env) (g : FuncId) (post : List Value) (h0 : Hp) (D W : Nat → Prop) (xs : List (List Value)) : Prop :=
  ∀ lb J Z, (∀ v h, ¬ Z (.pan v) h) → Yld E lb J Z xs → (∀ i h F h', J i h F → Mo W h h' → J i h' F) → ∀ h F, ItS h0 D h F → (∀ b, W b → h.get b = h0.get b) → (∀ b ∈ F, ¬ W b) → J 0 h F → CallQ E g ([] ++ [.func (.yield lb) #[] #[]] ++ post) none h (YQ J Z xs.length)
theorem natC_len (l : List Nat) : (l.flatMap encN).length = l.length := by rw [flatMap_len encN_len]; omega
theorem gkey_blk {h : Hp} {p : GL} (g : GHas h p) {c : Nat} (hb : blkOf p.1 c) : gkey p = some c := by
  rcases g with ⟨e, _⟩ | ⟨b, n, e, _⟩
  · rw [e] at hb; exact hb.elim
  · obtain ⟨v, k, vs⟩ := p
    simp only [] at e hb
    subst e
    exact congrArg some hb
theorem appendSeqI_ok {h0 : Hp} (ok : h0.t.Sized h0.n) {g : FuncId} {post : Array Value} {D W : Nat → Prop} {xs : List Nat} (it : IterW Tryz.abEnv g post.toList h0 D W (xs.map fun (x : Nat) => [.int .i64 x])) (hW : ∀ b, W b → b < h0.n) (hn : xs.length < 100000) :
    Ret Tryz.abEnv 177 [.slice none 0 0, .func (.func g) #[] post] h0 fun r h' => Mo W h0 h' ∧ GHas h' (r, 1, xs.flatMap encN) ∧ ∀ c, blkOf r c → h0.n ≤ c := by
  have S := St.init (M := NoM) ok
  refine enter_ret (n := 13) (rs := [.tmp 4]) rfl Tryz.e177 rfl rfl rfl (Nat.le_of_ble_eq_true rfl) ?_
  simp only [BS, Nat.reduceLT]
  refine step_newS (box_fl (by first | exact fl_int | exact fl_slice | exact fl_ptr | exact fl_bool | exact fl_map | exact fl_func | exact fl_nili | exact fl_iface | exact fl_nilf | exact fl_str | assumption)) S ?_; clear S; intro h b2 S n_b2
  simp only [BS, Nat.reduceLT, Nat.reduceEqDiff, if_false]
  replace S := S.nilG (k := 1)
  have g0 := S.gr
  replace S := S.monoM (M := W)
  have fr0 := S.fr
  refine run_range S (g := g) (a := #[]) (b := post) (by simp [ll_tmp, setR, argR_zero, argR_succ]) rfl rfl ?_
  intro h2 db lb S' hdb hlb g2
  obtain ⟨X, hX, S'⟩ : ∃ X : ALoop, X = _ ∧ St W h0 h2 [(lb, .loop X), (db, .dfr), (b2, .row [.slice none 0 0] 1)] [(.slice none 0 0, 1, [])] := ⟨_, rfl, S'⟩
  have nW : ∀ c, h0.n ≤ c → ¬ W c := fun c h hw => by have := hW c hw; omega
  have hJ : Yld Tryz.abEnv lb (fun k h' F => ∃ (vR : Value), St W h0 h' [(lb, .loop X), (db, .dfr), (b2, .row [vR] 1)] [(vR, 1, (xs.take k).flatMap encN)] ∧ k ≤ xs.length ∧ (∀ c ∈ F, h0.n ≤ c) ∧ F = keys [(lb, .loop X), (db, .dfr), (b2, .row [vR] 1)] [(vR, 1, (xs.take k).flatMap encN)]) (fun _ _ => False) (xs.map fun (x : Nat) => [.int .i64 x]) := by
    refine ⟨?_, ?_, fun _ _ h => h.elim, ?_⟩
    · rintro i h F ⟨vR, S, _, _, rfl⟩; exact ⟨S.ok, fun b hb => S.key_lt hb⟩
    · rintro i h F h' ⟨vR, S, a, b, rfl⟩ gg; exact ⟨vR, S.call gg, a, b, rfl⟩
    · rintro i x hR F hx ⟨vR, S, a, b, rfl⟩
      have hil : i < xs.length := by
        have := (List.getElem?_eq_some_iff.1 hx).1
        simpa using this
      rw [List.getElem?_map, List.getElem?_eq_getElem hil] at hx
      cases hx
      have tk : (xs.take (i + 1)).flatMap encN = (xs.take i).flatMap encN ++ [.int .i64 (xs[i] : Nat)] := by rw [List.take_add_one, List.getElem?_eq_getElem hil, List.flatMap_append]; rfl
      have tl : (xs.take i).length ≤ i := by rw [List.length_take]; omega
      subst hX
      refine round_run (S.get m0) (by rw [Tryz.e177]; rfl) rfl ?_
      have S0 := S
      replace S := S.base
      simp only [BS, Nat.reduceLT, Nat.reduceEqDiff, if_true, if_false, eq_self]
      refine assign_end S (i := 0) rfl rfl rfl rfl rfl ?_
      clear S; intro h S
      simp only [List.set_cons_zero] at S
      simp only [BS, Nat.reduceLT, Nat.reduceEqDiff, if_true, if_false, List.map_cons, List.map_nil, eq_self, Tryz.FFs3177, S.ld (b := b2) (o := 0) (by first | exact m0 | exact m1 | exact m2 | exact m3 | exact m4 | exact m5 | exact m6 | exact m7) rfl]
      refine step_newS (bs_new (by first | exact Tryz.u43) (by first | exact Tryz.e3E) (by decide) (by first | rfl | exact fillE )) S ?_; clear S; intro h bs S n_bs; simp only [repL, setL, vcells, List.cons_append, List.nil_append, List.append_nil, List.set_cons_zero, List.set_cons_succ, Nat.reduceMul, Nat.reduceAdd, Nat.zero_mul, Nat.zero_add, Nat.mul_one, Nat.one_mul] at S
      simp only [BS, Nat.reduceLT, Nat.reduceEqDiff, if_true, if_false, eq_self]
      have src : srcCells h 1 (.slice (some ⟨bs, 0, none⟩) 1 1) = some (1, [.int .i64 (xs[i] : Nat)]) := by simp only [srcCells]; rw [S.lds (b := bs) (o := 0) (n := 1 * 1) m0 (Nat.le_of_ble_eq_true rfl)]; rfl
      replace S := S.drop1
      refine step_v (S.grow (j := 0) (m := 1) (new := [.int .i64 (xs[i] : Nat)]) rfl Tryz.u43 Tryz.e3E (by decide) Tryz.n43 src rfl (by decide) rfl (by rw [natC_len]; simp; omega)) ?_
      clear S src; rintro h vR' S
      simp only [List.set_cons_zero] at S
      have fv : Fl vR' := (S.gown _ m0).1.fl
      simp only [BS, Nat.reduceLT, Nat.reduceEqDiff, if_true, if_false, eq_self]
      refine step_u (store_fl S (i := 2) rfl Tryz.s43 fv (Nat.lt_of_succ_le (Nat.le_of_ble_eq_true rfl)) Nat.one_ne_zero) ?_
      clear S; rintro h ⟨S, _⟩
      simp only [List.set_cons_zero, List.set_cons_succ] at S
      simp only [BS]
      refine round_normal S (i := 0) rfl ?_
      clear S; intro h S
      simp only [List.set_cons_zero, List.set_cons_succ] at S
      rw [← tk] at S
      have fin := S0.rebase S
      refine .inl ⟨rfl, _, ⟨vR', fin, by omega, fun c hc => ?_, rfl⟩, S.fr, fun c hc => (S.key_own hc).symm⟩
      rcases S.key_own hc with h1 | h1
      · have := S0.fr.n; omega
      · exact b c h1
  have hF0 : ∀ c ∈ keys [(lb, Ob.loop X), (db, .dfr), (b2, .row [.slice none 0 0] 1)] [(.slice none 0 0, 1, [])], h0.n ≤ c := fun c hc => by
    have n2 := n_b2
    have := fr0.n
    simp [keys, gkey] at hc
    omega
  refine callq_mono (it lb _ _ (fun _ _ h => h) hJ ?_ h2 _ ?_ ?_ (fun c hc => nW c (hF0 c hc)) ⟨_, S', Nat.zero_le _, hF0, rfl⟩) fun o rc h' y => range_all y ?_
  · rintro i h F h' ⟨vR, S, a, b, rfl⟩ gg
    exact ⟨vR, S.step gg (fun c hc => .inl hc) (fun c hc hw => nW c (b c hc) hw), a, b, rfl⟩
  · have gg : Mo W h0 h2 := S'.fr
    exact ⟨S'.ok, S'.fr.n, fun b hb _ => (g0.trans g2).get b hb, fun b hb h => by have := hF0 b hb; omega, fun b hb => S'.key_lt hb⟩
  · exact fun b hb => (g0.trans g2).get b (hW b hb)
  · rintro F ⟨vR, T, a, b, rfl⟩
    rw [List.length_map, List.take_length] at T b
    subst hX
    refine ⟨_, T.get m0, Nat.zero_ne_one, ?_⟩
    replace T := T.dead
    have S := T
    show Run _ _ _ _ _ _ _ _
    simp only [BS, Nat.reduceLT, Nat.reduceEqDiff, if_true, if_false, eq_self, Tryz.FFs3177, S.ld (b := b2) (o := 0) (by first | exact m0 | exact m1 | exact m2 | exact m3 | exact m4 | exact m5 | exact m6 | exact m7) rfl]
    refine leave_gen (un_dfrs [db] _ (L := [(b2, _)]) T.base fun h3 S3 => ⟨rfl, _, rfl, ?_⟩)
    refine ⟨(T.fr.trans S3.fr (fun c hc => (T.key_own hc).symm) : Mo W h0 h3), (S3.gown _ m0).1, fun x hx => ?_⟩
    refine b x ?_
    have : gkey (vR, 1, xs.flatMap encN) = some x := gkey_blk (T.gown _ m0).1 hx
    exact mem_keys_G m0 this
theorem collectI_ok {h0 : Hp} (ok : h0.t.Sized h0.n) {g : FuncId} {post : Array Value} {D W : Nat → Prop} {xs : List Nat} (it : IterW Tryz.abEnv g post.toList h0 D W (xs.map fun (x : Nat) => [.int .i64 x])) (hW : ∀ b, W b → b < h0.n) (hn : xs.length < 100000) :
    Ret Tryz.abEnv 116 [.func (.func g) #[] post] h0 fun r h' => Mo W h0 h' ∧ GHas h' (r, 1, xs.flatMap encN) ∧ ∀ c, blkOf r c → h0.n ≤ c := by
  have S := St.init (M := NoM) ok
  refine enter_ret (n := 5) (rs := [.tmp 2]) rfl Tryz.e116 rfl rfl rfl (Nat.le_of_ble_eq_true rfl) ?_
  simp only [BS, Nat.reduceLT, Nat.reduceEqDiff, if_true, if_false, List.map_cons, List.map_nil, List.append_nil, List.nil_append, eq_self]
  refine step_ret (appendSeqI_ok S.ok it hW hn) ?_
  rintro r h ⟨f, q⟩
  simp only [BS, tupleOf, Nat.reduceLT, Nat.reduceEqDiff, if_true, if_false, eq_self]
  exact ⟨f, q⟩
theorem sback_ok {h0 : Hp} (ok : h0.t.Sized h0.n) {br v : Nat} : Ret Tryz.abEnv 117 [ptrTo br, .int .i64 v] h0 fun r h' => Gr h0 h' ∧ ∃ b1 b2, r = .func (.func 178) #[] #[ptrTo b1, ptrTo b2] ∧ h0.n ≤ b1 ∧ h0.n ≤ b2 ∧ b1 ≠ b2 ∧ h'.load b1 0 1 = some [ptrTo br] ∧ Row h' b2 [.int .i64 v] 1 := by
  have S := St.init (M := NoM) ok
  refine enter_ret (n := 6) (rs := [.tmp 4]) rfl Tryz.e117 rfl rfl rfl (Nat.le_of_ble_eq_true rfl) ?_
  simp only [BS, Nat.reduceLT]
  refine step_newS (box_fl (by first | exact fl_int | exact fl_slice | exact fl_ptr | exact fl_bool | exact fl_map | exact fl_func | exact fl_nili | exact fl_iface | exact fl_nilf | exact fl_str | assumption)) S ?_; clear S; intro h b1 S n_b1
  simp only [BS, Nat.reduceLT, Nat.reduceEqDiff, if_false]
  refine step_newS (box_fl (by first | exact fl_int | exact fl_slice | exact fl_ptr | exact fl_bool | exact fl_map | exact fl_func | exact fl_nili | exact fl_iface | exact fl_nilf | exact fl_str | assumption)) S ?_; clear S; intro h b2 S n_b2
  simp only [BS, tupleOf, Nat.reduceLT, Nat.reduceEqDiff, if_true, if_false, List.map_cons, List.map_nil, List.map_toArray, eq_self]
  have ap := S.apart
  exact ⟨S.gr, b1, b2, rfl, n_b1, n_b2, fun e => (by subst e; simp [keys] at ap), S.ld m1 rfl, S.row m0⟩
theorem back_it {hq h0 : Hp} (okq : hq.t.Sized hq.n) (gq : Gr hq h0) {γ : Gra} (hγ : Good γ) {nb bp : Nat} (hn : NetAt hq nb (ptrTo bp) γ) {B : List Nat} {br b1 b2 s : Nat} {fal fpi : Value} {σ : SS} {al : Nat → Bool} {pi : Nat → Int} (R : SrAt h0 B br (ptrTo bp) fal fpi γ.nodes σ) (sv : Sv γ.arcs γ.nodes s al pi σ) {u0 : Nat} (hu : u0 ∈ σ.O)
    (e1 : h0.load b1 0 1 = some [ptrTo br]) (e2 : Row h0 b2 [.int .i64 u0] 1) (d1 : b2 ∉ B) (d2 : b1 ≠ b2) (d3 : hq.n ≤ b2) :
    IterW Tryz.abEnv 178 [ptrTo b1, ptrTo b2] h0 (fun c => c = b1 ∨ c ∈ B ∨ c < hq.n) (· = b2) ((σ.P u0).map fun (a : Nat) => [.int .i64 a]) := by
  intro lb J Z hz Y hW h F s' hb hF hj
  have ok0 := gq.ok
  obtain ⟨bl, bb, bk, ph, F', vE, rfl, hL, _⟩ := R
  have rr : Row h0 br _ 1 := hL _ m0
  have rb : Row h0 bb (byC γ.nodes σ.P) 1 := hL _ m2
  have kr : br ∈ keys (srL br bl bb bk γ.nodes (ptrTo bp) (ptrTo ph) fal fpi vE σ) (srG vE σ) ++ F' := List.mem_append_left _ (by simp [srL, keys])
  have kb : bb ∈ keys (srL br bl bb bk γ.nodes (ptrTo bp) (ptrTo ph) fal fpi vE σ) (srG vE σ) ++ F' := List.mem_append_left _ (by simp [srL, keys])
  generalize keys (srL br bl bb bk γ.nodes (ptrTo bp) (ptrTo ph) fal fpi vE σ) (srG vE σ) ++ F' = B at d1 kr kb s'
  have l0 := rr.load1 (o := 0) rfl
  have l3 := rr.load1 (o := 3) rfl
  have row2 : Row h b2 [.int .i64 u0] 1 := Row.of_get (hb b2 rfl) e2
  have q2 := row2.load1 (o := 0) rfl
  have uN := sv.lt u0 hu
  have q1 := s'.load ok0 e1 (.inl rfl)
  have q3 := s'.load ok0 l3 (.inr (.inl kr))
  have q4 := s'.load ok0 (rb.load1 (byC_at (P := σ.P) uN)) (.inr (.inl kb))
  refine enter (n := 39) (rs := []) rfl Tryz.e178 rfl rfl rfl (Nat.le_of_ble_eq_true rfl) ?_
  simp only [BS, List.nil_append, List.cons_append]
  refine draw_step (hoist_no rfl) (q := 0) (ps := []) (by kernel_rfl) ?_
  simp only [BS, cls, Nat.reduceLT, Nat.reduceEqDiff, Nat.reduceAdd, if_true, if_false, Nat.reducePow, Nat.reduceDiv, Nat.reduceMod, Nat.reduceLeDiff, Bool.and_false, Nat.mul_one, Nat.zero_add, true_and, decide_false, eq_self, Tryz.FFs3178, q1, q2, q3, q4, uN]
  refine loop_ind (fun (j : Nat) ρ h => j ≤ (σ.P u0).length ∧ ∃ u F, u ∈ σ.O ∧ σ.P u = (σ.P u0).drop j ∧ ItS h0 (fun c => c = b1 ∨ c ∈ B ∨ c < hq.n) h F ∧ b2 ∉ F ∧ J j h F ∧ Row h b2 [.int .i64 (u : Nat)] 1 ∧ ρ 0 = .func (.yield lb) #[] #[] ∧ ρ 1 = ptrTo b1 ∧ ρ 2 = ptrTo b2 ∧ ρ 4 = .int .i64 (byI (σ.P u))) (fun j => (σ.P u0).length - j) ?_ 0 _ _ ?_
  · clear q1 q2 q3 q4 uN row2 hj hF hb s' F h
    intro j ih ρ hS ⟨hj', u, F, hu', hP, s', hF, hj, row2, r0, r1, r2, r4⟩
    have uN := sv.lt u hu'
    rcases sv.path u (.inl hu') with ⟨_, e, _⟩ | ⟨a, ha, hal, ht, hs, e, _⟩
    · have ej : j = (σ.P u0).length := by
        rw [e] at hP
        have := congrArg List.length hP
        rw [List.length_drop] at this
        simp at this; omega
      rw [e] at r4
      simp only [byI] at r4
      simp only [BS, Nat.reduceLT, Nat.reduceEqDiff, if_true, if_false, List.getElem?_cons_zero, List.getElem?_cons_succ, Int.reduceLE, decide_false, eq_self, r4]
      exact leave_genN (un_nil ⟨rfl, _, rfl, rfl, .inl ⟨_, F, rfl, by rw [List.length_map, ← ej]; exact hj⟩⟩)
    · have hlt : j < (σ.P u0).length := by
        rw [e] at hP
        have := congrArg List.length hP
        rw [List.length_drop] at this
        simp at this; omega
      have hd : (σ.P u0)[j] = a ∧ (σ.P u0).drop (j + 1) = σ.P (γ.arcs.getD a default).s := by
        rw [e, List.drop_eq_getElem_cons hlt] at hP
        injection hP with h1 h2
        exact ⟨h1.symm, h2.symm⟩
      have hx : ((σ.P u0).map fun (a : Nat) => [Value.int .i64 a])[j]? = some [.int .i64 (a : Nat)] := by rw [List.getElem?_map, List.getElem?_eq_getElem hlt, hd.1]; rfl
      rw [e] at r4
      simp only [byI] at r4
      have c0 : (0 : Int) ≤ (a : Int) := by omega
      have b2lt := row2.lt s'.ok
      simp only [BS, Nat.reduceLT, Nat.reduceEqDiff, if_true, if_false, List.map_cons, List.map_nil, List.getElem?_cons_zero, List.getElem?_cons_succ, decide_true, eq_self, r0, r4, c0]
      refine yield_step Y s' hj (i := j) hx ?_ ?_ ?_
      · intro h' F2 hj2 s2 f2 hF2
        have row2' : Row h' b2 [.int .i64 (u : Nat)] 1 := f2.has (o := .row _ 1) row2 hF
        have nF2 : b2 ∉ F2 := fun hm => (hF2 b2 hm).elim hF (fun h => by omega)
        have S := St.init1 s2.ok (o := .row _ 1) row2'
        have q1 := s2.load ok0 e1 (.inl rfl)
        have q0 := s2.load ok0 l0 (.inr (.inl kr))
        have q3 := s2.load ok0 l3 (.inr (.inl kr))
        have sN := sv.lt _ hs
        have q4 := s2.load ok0 (rb.load1 (byC_at (P := σ.P) sN)) (.inr (.inl kb))
        have nt : NetAt h' nb (ptrTo bp) γ := hn.keep okq (s2.keep (Gr.keep gq) gq.n (fun c hc => .inr (.inr hc)))
        simp only [BS, Nat.add_zero, Nat.reduceLT, Nat.reduceEqDiff, if_true, if_false, List.map_cons, List.map_nil, List.append_nil, List.nil_append, eq_self, Tryz.FFs3178, r1, r4, q1, q0]
        refine step_ret (netArc_ok S.ok nt ha) ?_
        rintro rv h4 ⟨g4, rfl⟩
        replace S := S.call g4; clear g4
        have ga : γ.arcs[a] = γ.arcs.getD a default := by simp [List.getD_eq_getElem?_getD, ha]
        rw [ga]
        have nM : ∀ {c}, c = b1 ∨ c ∈ B → ¬ c = b2 := fun hc e => by subst e; exact hc.elim (fun h => d2 h.symm) d1
        simp only [BS, Nat.reduceLT, Nat.reduceEqDiff, if_true, if_false, eq_self, Tryz.FFs3178, encA]
        refine step_newS allocR_new S ?_; clear S; intro h b5 S n_b5
        simp only [BS, Nat.reduceLT, Nat.reduceEqDiff, if_true, if_false, eq_self]
        first | refine step_u (S.store (i := 0) rfl ?_ ?_ rfl rfl ?_ Nat.one_ne_zero) ?_ | refine step_u (S.store (i := 1) rfl ?_ ?_ rfl rfl ?_ Nat.one_ne_zero) ?_ | refine step_u (S.store (i := 2) rfl ?_ ?_ rfl rfl ?_ Nat.one_ne_zero) ?_ | refine step_u (S.store (i := 3) rfl ?_ ?_ rfl rfl ?_ Nat.one_ne_zero) ?_ | refine step_u (S.store (i := 4) rfl ?_ ?_ rfl rfl ?_ Nat.one_ne_zero) ?_ | refine step_u (S.store (i := 5) rfl ?_ ?_ rfl rfl ?_ Nat.one_ne_zero) ?_ | refine step_u (S.store (i := 6) rfl ?_ ?_ rfl rfl ?_ Nat.one_ne_zero) ?_ | refine step_u (S.store (i := 7) rfl ?_ ?_ rfl rfl ?_ Nat.one_ne_zero) ?_
        · exact (by first | exact Tryz.s31 | exact Tryz.s51 | exact Tryz.s56 | exact Tryz.s165 | exact Tryz.s182 | exact Tryz.s239)
        · exact (by intro x e; cases e)
        · exact Nat.le_of_ble_eq_true rfl
        clear S; rintro h ⟨S, mo⟩; clear mo; simp only [List.set_cons_zero, List.set_cons_succ, vcells, lay, List.take, List.drop, List.nil_append, List.cons_append, List.append_nil, List.length_cons, List.length_nil, Nat.reduceAdd, Nat.add_zero] at S
        simp only [BS, Nat.add_zero, Nat.reduceLT, Nat.reduceEqDiff, if_true, if_false, eq_self, Tryz.FFs3178, r2, S.ld (b := b5) (o := 0) (by first | exact m0 | exact m1 | exact m2 | exact m3 | exact m4 | exact m5 | exact m6 | exact m7) rfl]
        first | refine step_u (store_fl S (i := 0) rfl ?_ ?_ ?_ Nat.one_ne_zero) ?_ | refine step_u (store_fl S (i := 1) rfl ?_ ?_ ?_ Nat.one_ne_zero) ?_ | refine step_u (store_fl S (i := 2) rfl ?_ ?_ ?_ Nat.one_ne_zero) ?_ | refine step_u (store_fl S (i := 3) rfl ?_ ?_ ?_ Nat.one_ne_zero) ?_ | refine step_u (store_fl S (i := 4) rfl ?_ ?_ ?_ Nat.one_ne_zero) ?_ | refine step_u (store_fl S (i := 5) rfl ?_ ?_ ?_ Nat.one_ne_zero) ?_ | refine step_u (store_fl S (i := 6) rfl ?_ ?_ ?_ Nat.one_ne_zero) ?_ | refine step_u (store_fl S (i := 7) rfl ?_ ?_ ?_ Nat.one_ne_zero) ?_
        · exact (by simp only [Tryz.FFs3178])
        · exact (by first | exact fl_int | exact fl_slice | exact fl_ptr | exact fl_bool | exact fl_map | exact fl_func | exact fl_nili | exact fl_iface | exact fl_nilf | exact fl_str | assumption)
        · exact Nat.lt_of_succ_le (Nat.le_of_ble_eq_true rfl)
        clear S; rintro h ⟨S, mo⟩; clear mo; simp only [List.set_cons_zero, List.set_cons_succ, vcells, lay, List.take, List.drop, List.nil_append, List.cons_append, List.append_nil, List.length_cons, List.length_nil, Nat.reduceAdd, Nat.add_zero] at S
        have k1 := S.old q1 (nM (.inl rfl))
        have k3 := S.old q3 (nM (.inr kr))
        have k4 := S.old q4 (nM (.inr kb))
        simp only [BS]
        refine draw_step (hoist_no rfl) (q := 0) (ps := []) (by kernel_rfl) ?_
        simp only [BS, cls, Nat.reduceLT, Nat.reduceEqDiff, Nat.reduceAdd, if_true, if_false, Nat.reducePow, Nat.reduceDiv, Nat.reduceMod, Nat.reduceLeDiff, Bool.and_false, Nat.mul_one, Nat.zero_add, true_and, decide_false, eq_self, Tryz.FFs3178, r1, r2, k1, k3, k4, sN, S.ld (b := b2) (o := 0) (by first | exact m0 | exact m1 | exact m2 | exact m3 | exact m4 | exact m5 | exact m6 | exact m7) rfl]
        have fr := S.fr
        refine ih (j + 1) _ _ (by omega) ⟨by omega, (γ.arcs.getD a default).s, F2, hs, hd.2.symm, ?_, nF2, hW _ _ _ _ hj2 fr, S.row (by simp), by simp [setR, r0], by simp [setR, r1, ptr_eq], by simp [setR, r2, ptr_eq], by simp [setR]⟩
        exact ⟨fr.ok, Nat.le_trans s2.n fr.n, fun b hb hd => (fr.get b (Nat.lt_of_lt_of_le hb s2.n) (by rcases hd with h | h | h; exact nM (.inl h); exact nM (.inr h); exact fun e => by omega)).trans (s2.data b hb hd), s2.apart, fun b hb => Nat.lt_of_lt_of_le (s2.lt b hb) fr.n⟩
      · intro h' a' _
        simp only [BS, Nat.reduceLT, Nat.reduceEqDiff, if_true, if_false, eq_self]
        exact leave_genN (un_nil ⟨rfl, _, rfl, rfl, .inr (.inl ⟨_, rfl, a'⟩)⟩)
      · intro v h' a'
        exact absurd a' (hz v h')
  · exact ⟨Nat.zero_le _, u0, F, hu, by rw [List.drop_zero], s', fun hm => hF b2 hm rfl, hj, row2, by simp [setR, argR], by simp [setR, argR, ptr_eq], by simp [setR, argR, ptr_eq], by simp [setR]⟩
end Go.Ab

end
section
namespace Go.Ab
open Go.Proofs
set_option maxRecDepth 10000
open Tryz in
def Tryz.FFs4118 := aj a1 <| aj s1 <| aj z1 <| aj n1 <| aj u2 <| aj a2 <| aj s2 <| aj z2 <| aj i2 <| aj u3 <| aj a3 <| aj s3 <| aj z3 <| aj i3 <| aj u4 <| aj a4 <| aj s4 <| aj z4 <| aj n4 <| aj u43 <| aj a43 <| aj s43 <| aj z43 <| aj q43 <| n43
def rvC (n k : Nat) (f : Nat → Value) : List Value := (List.range n).map fun p => if p < k ∨ n ≤ p + k then f (n - 1 - p) else f p
theorem rvC_len {n k : Nat} {f : Nat → Value} : (rvC n k f).length = n := by simp [rvC]
theorem rvC_at {n k i : Nat} {f : Nat → Value} (h : i < n) : (rvC n k f)[i]? = some (if i < k ∨ n ≤ i + k then f (n - 1 - i) else f i) := mapr_at (F := fun p => if p < k ∨ n ≤ p + k then f (n - 1 - p) else f p) h
theorem rvC_step {n k : Nat} {f : Nat → Value} (h : 2 * k + 1 < n) : ((rvC n k f).set k (f (n - 1 - k))).set (n - 1 - k) (f k) = rvC n (k + 1) f := by
  refine List.ext_getElem? fun i => ?_
  rw [List.getElem?_set, List.getElem?_set, List.length_set, rvC_len]
  by_cases hi : i < n
  · rw [rvC_at hi, rvC_at hi]
    by_cases e1 : n - 1 - k = i
    · subst e1
      rw [if_pos rfl, if_pos hi, if_pos (.inr (by omega)), show n - 1 - (n - 1 - k) = k by omega]
    · rw [if_neg e1]
      by_cases e2 : k = i
      · subst e2
        rw [if_pos rfl, if_pos hi, if_pos (.inl (by omega))]
      · rw [if_neg e2]
        congr 1
        by_cases c : i < k ∨ n ≤ i + k
        · rw [if_pos c, if_pos (by omega)]
        · rw [if_neg c, if_neg (by omega)]
  · rw [if_neg (by omega), if_neg (by omega)]
    rw [List.getElem?_eq_none (by rw [rvC_len]; omega), List.getElem?_eq_none (by rw [rvC_len]; omega)]
theorem rvC_zero {xs : List Nat} : xs.flatMap encN = rvC xs.length 0 fun p => .int .i64 (xs.getD p 0 : Nat) := by
  have e : xs.flatMap encN = xs.map fun (x : Nat) => Value.int .i64 x := by
    rw [List.flatMap_eq_foldl, List.map_eq_flatMap, List.flatMap_eq_foldl]; rfl
  rw [e]
  refine List.ext_getElem? fun i => ?_
  by_cases hi : i < xs.length
  · rw [rvC_at hi, if_neg (by omega)]; simp [hi]
  · rw [List.getElem?_eq_none (by simpa using hi), List.getElem?_eq_none (by rw [rvC_len]; omega)]
theorem rvC_done {xs : List Nat} {k : Nat} (h : xs.length ≤ 2 * k + 1) (hk : 2 * k ≤ xs.length) : rvC xs.length k (fun p => .int .i64 (xs.getD p 0 : Nat)) = xs.reverse.flatMap encN := by
  have e : xs.reverse.flatMap encN = xs.reverse.map fun (x : Nat) => Value.int .i64 x := by
    rw [List.flatMap_eq_foldl, List.map_eq_flatMap, List.flatMap_eq_foldl]; rfl
  rw [e]
  refine List.ext_getElem? fun i => ?_
  by_cases hi : i < xs.length
  · rw [rvC_at hi, List.getElem?_map, List.getElem?_reverse hi]
    have hj : xs.length - 1 - i < xs.length := by omega
    rw [List.getElem?_eq_getElem hj]
    have g : ∀ {j : Nat} (hj : j < xs.length), xs.getD j 0 = xs[j] := fun hj => by simp [List.getD_eq_getElem?_getD, hj]
    by_cases c : i < k ∨ xs.length ≤ i + k
    · rw [if_pos c, g hj]; rfl
    · rw [if_neg c]
      have : i = xs.length - 1 - i := by omega
      rw [g hi]
      simp only [Option.map_some]
      congr 3
      simp only [← this]
  · rw [List.getElem?_eq_none (by rw [rvC_len]; omega), List.getElem?_eq_none (by simpa using hi)]
theorem reverseI_ok {h0 : Hp} (ok : h0.t.Sized h0.n) {v : Value} {xs : List Nat} (hG : GHas h0 (v, 1, xs.flatMap encN)) (hn : xs.length < 1000000) :
    Ret Tryz.abEnv 118 [v] h0 fun _ h' => Mo (blkOf v) h0 h' ∧ GHas h' (v, 1, xs.reverse.flatMap encN) := by
  rcases hG with ⟨e1, e2⟩ | ⟨b, n, e1, e2, e3⟩
  · simp only [] at e1 e2
    subst e1
    have : xs = [] := by
      cases xs with
      | nil => rfl
      | cons a l => simp [encN] at e2
    subst this
    have S := St.init (M := NoM) ok
    refine enter_ret (n := 28) (rs := []) rfl Tryz.e118 rfl rfl rfl (Nat.le_of_ble_eq_true rfl) ?_
    simp only [BS, Nat.reduceLT, Nat.reduceEqDiff, if_true, if_false, Int.reduceSub, Int.cast_ofNat_Int, eq_self, Tryz.FFs4118]
    rw [run_unroll]
    have wm : wrapI .i64 (-1) = -1 := rfl
    have c0 : ¬ ((0 : Int) < -1) := by omega
    simp only [BS, Nat.reduceLT, Nat.reduceEqDiff, if_true, if_false, decide_false, eq_self, wm, c0]
    exact ⟨S.gr.fr, .inl ⟨rfl, rfl⟩⟩
  · simp only [] at e1 e2 e3
    subst e1
    have en : n = xs.length := by rw [natC_len] at e2; omega
    subst en
    rw [rvC_zero] at e3
    have S := St.init1 ok (o := .row _ 1) e3
    have w1 : wrapI .i64 ((xs.length : Int) - 1) = (xs.length : Int) - 1 := by rw [wrap64] <;> omega
    refine enter_ret (n := 28) (rs := []) rfl Tryz.e118 rfl rfl rfl (Nat.le_of_ble_eq_true rfl) ?_
    simp only [BS, Nat.reduceLT, Nat.reduceEqDiff, if_true, if_false, eq_self, Tryz.FFs4118, w1]
    refine loop_ind (fun (k : Nat) ρ h => 2 * k ≤ xs.length ∧ St (· = b) h0 h [(b, .row (rvC xs.length k fun p => .int .i64 (xs.getD p 0 : Nat)) 1)] [] ∧ ρ 0 = .slice (some ⟨b, 0, some 1⟩) xs.length xs.length ∧ ρ 2 = .int .i64 (k : Nat) ∧ ρ 3 = .int .i64 ((xs.length : Int) - 1 - k)) (fun k => xs.length - k) ?_ 0 _ _ ?_
    · clear S
      intro k ih ρ hS ⟨hk, S, r0, r2, r3⟩
      by_cases hlt : 2 * k + 1 < xs.length
      · have c1 : (k : Int) < (xs.length : Int) - 1 - k := by omega
        have hk1 : k < xs.length := by omega
        have hk2 : xs.length - 1 - k < xs.length := by omega
        have ej : (xs.length : Int) - 1 - k = ((xs.length - 1 - k : Nat) : Int) := by omega
        have wa : wrapI .i64 ((k : Int) + 1) = ((k + 1 : Nat) : Int) := by rw [wrap64] <;> omega
        have wb : wrapI .i64 (((xs.length - 1 - k : Nat) : Int) - 1) = (xs.length : Int) - 1 - (k + 1 : Nat) := by rw [wrap64] <;> omega
        have q1 := (S.row (b := b) m0).load1 (rvC_at hk1)
        have q2 := (S.row (b := b) m0).load1 (rvC_at hk2)
        rw [if_neg (by omega)] at q1 q2
        rw [ej] at r3 c1
        simp only [BS, Nat.reduceLT, Nat.reduceEqDiff, if_true, if_false, decide_true, eq_self, r2, r3, c1]
        refine draw_step (hoist_no rfl) (q := 0) (ps := []) (by kernel_rfl) ?_
        simp only [BS, cls, Nat.reduceLT, Nat.reduceEqDiff, Nat.reduceAdd, if_true, if_false, Nat.reducePow, Nat.reduceDiv, Nat.reduceMod, Nat.reduceLeDiff, Bool.and_false, Nat.mul_one, Nat.zero_add, decide_false, eq_self, Tryz.FFs4118, r0, r2, r3, hk1, hk2, q1, q2]
        refine dn_u (store_fl S (i := 0) rfl Tryz.s3 fl_int (by rw [rvC_len]; exact hk1) Nat.one_ne_zero) ?_
        clear S; rintro h3 ⟨S, mo1⟩
        simp only [List.set_cons_zero, List.set_cons_succ] at S
        simp only [BS, cls, Nat.reduceLT, Nat.reduceEqDiff, Nat.reduceAdd, if_true, if_false, Nat.reducePow, Nat.reduceDiv, Nat.reduceMod, Nat.reduceLeDiff, Bool.and_false, Nat.mul_one, Nat.zero_add, decide_false, eq_self, Tryz.FFs4118, hk2]
        refine dn_u (store_fl S (i := 0) rfl Tryz.s3 fl_int (by rw [List.length_set, rvC_len]; exact hk2) Nat.one_ne_zero) ?_
        clear S; rintro h4 ⟨S, mo2⟩
        simp only [List.set_cons_zero, List.set_cons_succ] at S
        have st := rvC_step (f := fun p => .int .i64 (xs.getD p 0 : Nat)) hlt
        rw [st] at S
        simp only [BS, Nat.reduceLT, Nat.reduceEqDiff, Nat.reduceAdd, if_true, if_false, true_and, eq_self, r2, r3, wa, wb]
        exact ih (k + 1) _ _ (by omega) ⟨by omega, S, by simp [setR, r0], by simp [setR], by simp [setR]⟩
      · have c1 : ¬ (k : Int) < (xs.length : Int) - 1 - k := by omega
        simp only [BS, Nat.reduceLT, Nat.reduceEqDiff, if_true, if_false, decide_false, eq_self, r2, r3, c1]
        have fin := S.row m0
        rw [rvC_done (by omega) hk] at fin
        exact ⟨S.fr.mono (fun c hc => Eq.symm hc), .inr ⟨b, xs.length, rfl, by show xs.length * 1 = (xs.reverse.flatMap encN).length; rw [natC_len, List.length_reverse]; omega, fin⟩⟩
    · exact ⟨by omega, S, by simp [setR, argR_zero], by simp [setR], by simp [setR]⟩
end Go.Ab

end
section
namespace Go.Ab
open Go.Proofs
set_option maxRecDepth 10000
open Tryz in
def Tryz.FFs557 := aj a1 <| aj s1 <| aj z1 <| aj n1 <| aj u2 <| aj a2 <| aj s2 <| aj z2 <| aj i2 <| aj u3 <| aj a3 <| aj s3 <| aj z3 <| aj i3 <| aj u4 <| aj a4 <| aj s4 <| aj z4 <| aj n4 <| aj u5 <| aj a5 <| aj s5 <| aj z5 <| aj i5 <| aj u6 <| aj a6 <| aj s6 <| aj z6 <| aj i6 <| aj a7 <| aj s7 <| aj z7 <| aj i7 <| aj n7 <| aj p7 <| aj ff7 <| aj d7 <| aj a8 <| aj s8 <| aj z8 <| aj i8 <| aj n8 <| aj p8 <| aj ff8 <| aj d8 <| aj u9 <| aj a9 <| aj s9 <| aj z9 <| aj n9 <| aj u10 <| aj a10 <| aj s10 <| aj z10 <| aj n10 <| aj u11 <| aj a11 <| aj s11 <| aj z11 <| aj n11 <| aj u25 <| aj a25 <| aj s25 <| aj z25 <| aj q25 <| aj n25 <| aj u33 <| aj a33 <| aj s33 <| aj z33 <| aj q33 <| aj i33 <| aj n33 <| aj u38 <| aj a38 <| aj s38 <| aj z38 <| aj q38 <| aj n38 <| aj u43 <| aj a43 <| aj s43 <| aj z43 <| aj q43 <| aj n43 <| aj u44 <| aj a44 <| aj s44 <| aj z44 <| aj q44 <| aj n44 <| aj a46 <| aj s46 <| aj z46 <| aj i46 <| aj n46 <| aj p46 <| aj ff46 <| aj d46 <| aj a51 <| aj s51 <| aj z51 <| aj i51 <| aj n51 <| aj p51 <| aj ff51 <| aj d51 <| aj a111 <| aj s111 <| aj z111 <| aj n111 <| aj u114 <| aj a114 <| aj s114 <| aj z114 <| aj q114 <| aj i114 <| aj n114 <| aj a145 <| aj s145 <| aj z145 <| aj n145 <| aj a165 <| aj s165 <| aj z165 <| aj i165 <| aj n165 <| aj p165 <| aj ff165 <| aj d165 <| aj u178 <| aj a178 <| aj s178 <| aj z178 <| aj q178 <| aj i178 <| aj n178 <| aj a180 <| aj s180 <| aj z180 <| aj n180 <| aj a182 <| aj s182 <| aj z182 <| aj i182 <| aj n182 <| aj p182 <| aj ff182 <| aj d182 <| aj a237 <| aj s237 <| aj z237 <| aj i237 <| aj n237 <| aj p237 <| aj ff237 <| aj d237 <| aj a239 <| aj s239 <| aj z239 <| aj i239 <| aj n239 <| aj p239 <| aj ff239 <| d239
def zS : SS := ⟨fun _ => none, fun _ => 0, fun _ => [], [], []⟩
def FdAt (h : Hp) (m : Nat) (r : Value) (fd : Fd) : Prop := ∃ vA vE, r = .agg ⟨[.int .i64 (fd.dist : Nat), vA, vE]⟩ ∧ GHas h (vA, 1, fd.arcs.flatMap encN) ∧ GHas h (vE, 4, fd.ev.flatMap encE) ∧ (∀ c, blkOf vA c → m ≤ c ∧ ¬ blkOf vE c) ∧ ∀ c, blkOf vE c → m ≤ c
theorem ev_scanS (A : List Arc) (al : Nat → Bool) (pi : Nat → Int) (v : Nat) (σ : SS) : (scanS A al pi v σ).ev.length ≤ σ.ev.length + A.length := by
  have : ∀ (l : List Nat) (σ : SS), (l.foldl (scan1 A al pi v) σ).ev.length ≤ σ.ev.length + l.length := by
    intro l
    induction l with
    | nil => intro σ; simp
    | cons a l ih => intro σ; have h1 := ih (scan1 A al pi v σ a); have h2 := ev_scan1 A al pi v σ a; simp only [List.foldl_cons, List.length_cons]; omega
  have h1 := this (outs A Arc.s A.length v) σ
  have h2 := outs_len A Arc.s A.length v
  unfold scanS
  omega
theorem srun_ok {hq h0 : Hp} (okq : hq.t.Sized hq.n) (gq : Gr hq h0) {γ : Gra} (hγ : Good γ) {nb bp : Nat} (hn : NetAt hq nb (ptrTo bp) γ) {B0 : List Nat} {br ba s to : Nat} {g1 g2 : FuncId} {al : Nat → Bool} {pi : Nat → Int} (R0 : SrAt h0 B0 br (ptrTo bp) (.func (.func g1) #[] #[ptrTo ba]) (.func (.func g2) #[] #[ptrTo ba]) γ.nodes zS) (hB0 : ∀ c ∈ B0, hq.n ≤ c) (hal : AlF Tryz.abEnv hq g1 ba γ.arcs.length al) (hpi : PiF Tryz.abEnv hq g2 ba γ.nodes pi) (hp : ∀ v, v < γ.nodes → -(FAR : Int) ≤ pi v)
    (hs : s < γ.nodes) (hto : to < γ.nodes) :
    Ret Tryz.abEnv 57 [ptrTo br, .int .i64 (s : Nat), .int .i64 (to : Nat)] h0 fun r h' => Gr hq h' ∧ ∃ fd, Ends γ.arcs al pi to (initS pi s) fd ∧ FdAt h' hq.n r fd := by
  have ok := gq.ok
  have n1 := hγ.n1
  have n2 := hγ.n2
  have many := hγ.many
  have wm := WMAX_eq
  have fr := FAR_eq
  have hA : ∀ a ∈ γ.arcs, a.t < γ.nodes ∧ a.w ≤ WMAX := fun a ha => ⟨(hγ.arcs a ha).2.1, (hγ.arcs a ha).2.2⟩
  have lB := R0.lt ok
  have S := St.init (M := NoM) ok
  refine enter_ret (n := 79) (rs := [.cell 6 46]) rfl Tryz.e57 rfl rfl rfl (Nat.le_of_ble_eq_true rfl) ?_
  simp only [BS, Tryz.FFs557]
  refine step_newS allocR_new S ?_; clear S; intro h b6 S n_b6
  simp only [BS, Nat.reduceLT, Nat.reduceEqDiff, if_true, if_false, List.map_cons, List.map_nil, List.append_nil, List.nil_append, eq_self]
  have row6 := S.row (b := b6) m0
  have gA := S.gr
  have okA := S.ok
  have l6 := row6.lt okA
  have n6 : b6 ∉ B0 := fun h => by have := lB b6 h; have := n_b6; omega
  have q6 : hq.n ≤ b6 := Nat.le_trans gq.n n_b6
  clear S
  rename Hp => hA'
  have rc : Ret Tryz.abEnv 114 [ptrTo br, .int .i64 (s : Nat), .int .i64 0, .int .i64 (-1)] hA' _ := sreach_ok (p := []) (lab := 0) (gq.trans gA) (R0.gr gA) hpi n2 hs (Nat.zero_le _) (hp s hs) (fun k h => by cases h)
  refine step_ret rc ?_
  rintro r h1 ⟨f1, B1, R1, hB1⟩
  clear rc
  simp only [BS]
  refine loop_ind (fun (σ : SS) ρ h => ∃ B, Mo (fun c => c ∈ B0 ∨ c = b6) hA' h ∧ Row h b6 [.int .i64 0, .slice none 0 0, .slice none 0 0] 1 ∧ SrAt h B br (ptrTo bp) (.func (.func g1) #[] #[ptrTo ba]) (.func (.func g2) #[] #[ptrTo ba]) γ.nodes σ ∧ (∀ c ∈ B, c ∈ B0 ∨ hA'.n ≤ c) ∧ Sv γ.arcs γ.nodes s al pi σ ∧ σ.ev.length ≤ σ.O.length * 200 ∧ (∀ r, Ends γ.arcs al pi to σ r → Ends γ.arcs al pi to (initS pi s) r) ∧ ρ 0 = ptrTo br ∧ ρ 1 = .int .i64 (s : Nat) ∧ ρ 2 = .int .i64 (to : Nat) ∧ ρ 6 = ptrTo b6) (fun σ => γ.nodes - σ.O.length) ?_ (initS pi s) _ _ ?_
  · clear R1 f1 hB1 B1 h1
    intro σ ih ρ hS ⟨B, f, row6', R, hB, sv, hev, hE, r0, r1, r2, r6⟩
    have hBq : ∀ c ∈ B, hq.n ≤ c := fun c hc => (hB c hc).elim (hB0 c) (fun h => by have := (gq.trans gA).n; omega)
    have gh : Gr hq hS := (((gq.trans gA).fr (M := NoM)).trans f (fun c hc => .inr (hc.elim (hB0 c) (fun e => by subst e; exact q6)))).gr
    have b6B : b6 ∉ B := fun h => (hB b6 h).elim n6 (fun h => by omega)
    have ol := sv.len
    have ol2 : σ.O.length * WMAX ≤ 12 * WMAX := Nat.mul_le_mul_right _ (Nat.le_trans ol n2)
    obtain ⟨bl, bb, bk, ph, F, vE, hBe, S, H, hF⟩ := R.open f.ok
    have hk0 : ∀ c ∈ keys (srL br bl bb bk γ.nodes (ptrTo bp) (ptrTo ph) (.func (.func g1) #[] #[ptrTo ba]) (.func (.func g2) #[] #[ptrTo ba]) vE σ) (srG vE σ), c ∈ B := fun c hc => by rw [hBe]; exact List.mem_append_left _ hc
    have hk1 : ∀ c ∈ F, c ∈ B := fun c hc => by rw [hBe]; exact List.mem_append_right _ hc
    have lF := H.lt f.ok
    replace S := (S.base.mono (M' := fun c => c ∈ B ∨ c = b6) (fun c hc => .inl (hk0 c hc))).push (b := b6) (o := .row _ 1) (.inr (.inr rfl)) row6' (fun h => b6B (hk0 b6 h))
    have hF6 : ∀ c ∈ F, c ≠ b6 := fun c hc e => b6B (by rw [← e]; exact hk1 c hc)
    have hFS : ∀ c ∈ F, c ∉ keys ((b6, Ob.row [.int .i64 0, .slice none 0 0, .slice none 0 0] 1) :: srL br bl bb bk γ.nodes (ptrTo bp) (ptrTo ph) (.func (.func g1) #[] #[ptrTo ba]) (.func (.func g2) #[] #[ptrTo ba]) vE σ) (srG vE σ) := fun c hc hm => (List.mem_cons.1 hm).elim (hF6 c hc) (hF c hc)
    unfold srL srG at S
    simp only [BS, Nat.reduceLT, Nat.reduceEqDiff, if_true, if_false, List.map_cons, List.map_nil, List.append_nil, List.nil_append, Nat.zero_add, eq_self, Tryz.FFs557, r0, S.ld (b := br) (o := 1) (by first | exact m0 | exact m1 | exact m2 | exact m3 | exact m4 | exact m5 | exact m6 | exact m7) rfl]
    refine step_ret (heapPop_ok S.ok H (by omega)) ?_
    rintro rv h2 (⟨rfl, hnone, g2'⟩ | ⟨v, k, rfl, hk, hmin, f2, H2⟩)
    · replace S := S.call g2'
      have fvE : Fl vE := (S.gown _ m0).1.fl
      simp only [BS, Option.isSome_some, Nat.reduceLT, Nat.reduceEqDiff, Nat.reduceAdd, if_true, if_false, List.map_cons, List.map_nil, List.length_cons, List.length_nil, List.set_cons_zero, List.set_cons_succ, List.getElem?_cons_zero, List.getElem?_cons_succ, Nat.zero_add, Bool.not_false, eq_self, Tryz.FFs557, r0, r6, fvE, S.ld (b := br) (o := 7) (by first | exact m0 | exact m1 | exact m2 | exact m3 | exact m4 | exact m5 | exact m6 | exact m7) rfl]
      refine step_u (S.store (i := 0) rfl Tryz.s46 (by intro x e; cases e) rfl (by simp only [vcells, List.all_cons, List.all_nil, fvE.2.1, Bool.and_true]; rfl) (Nat.le_of_ble_eq_true rfl) Nat.one_ne_zero) ?_
      clear S; rintro h3 ⟨S, mo⟩
      simp only [List.set_cons_zero, List.set_cons_succ, vcells, lay, List.take, List.drop, List.nil_append, List.cons_append, List.append_nil, List.length_cons, List.length_nil, Nat.reduceAdd, Nat.add_zero] at S
      simp only [BS, tupleOf]
      refine (res_cell (by decide) (by simp only [setR_at, r6, ptr_eq, Nat.reduceEqDiff, reduceIte]; exact loadV_aggr Tryz.a46 Tryz.s46 (S.lds (b := b6) (o := 0) (n := 3) m0 (Nat.le_of_ble_eq_true rfl)))).2 (res_nil.2 ?_)
      refine ⟨(gh.fr (M := NoM)).trans S.fr (fun c hc => .inr (hc.elim (hBq c) (fun e => by subst e; exact q6))) |>.gr, _, hE _ (.none hnone), .slice none 0 0, vE, rfl, .inl ⟨rfl, rfl⟩, (S.gown _ m0).1, fun c hc => hc.elim, fun c hc => ?_⟩
      have := (S.gown _ m0).2 c (gkey_blk (S.gown _ m0).1 hc)
      exact this.elim (fun h => Nat.le_trans gh.n h) (fun h => h.elim (hBq c) (fun e => by subst e; exact q6))
    · have hpop : Pops σ.K v k := ⟨hk, hmin⟩
      obtain ⟨ov, nO, pv, ek⟩ := sv.op v k hk
      replace S := S.stepF f2 (fun c hc => ⟨.inl (.inl (hk1 c hc)), hFS c hc⟩)
      have bv := (sv.bd v).1
      have Sp := S
      have lF2 := H2.lt Sp.ok
      have kp : ∀ c ∈ keys ((b6, Ob.row [.int .i64 0, .slice none 0 0, .slice none 0 0] 1) :: srL br bl bb bk γ.nodes (ptrTo bp) (ptrTo ph) (.func (.func g1) #[] #[ptrTo ba]) (.func (.func g2) #[] #[ptrTo ba]) vE σ) (srG vE σ), hS.n ≤ c ∨ c ∈ B ∨ c = b6 := fun c hc => Sp.key_own hc
      have kl := fun {c} hc => Sp.key_lt (b := c) hc
      have np := Sp.fr.n
      replace S := S.base
      have fvE : Fl vE := (S.gown _ m0).1.fl
      simp only [BS, Nat.reduceLT, Nat.reduceEqDiff, if_true, if_false, Nat.mul_one, Nat.zero_add, Bool.not_true, eq_self, Tryz.FFs557, r0, ov, S.ld (b := br) (o := 4) (by first | exact m0 | exact m1 | exact m2 | exact m3 | exact m4 | exact m5 | exact m6 | exact m7) rfl]
      refine step_u (store_fl S (i := 4) rfl Tryz.s4 fl_bool (by rw [clC_len]; exact ov) Nat.one_ne_zero) ?_
      clear S; rintro h3 ⟨S, mo3⟩
      simp only [List.set_cons_zero, List.set_cons_succ] at S
      rw [clC_set] at S
      have lL := (S.row (b := bl) m2).load1 (labC_at (L := σ.L) ov)
      simp only [BS]
      refine draw_step (hoist_no rfl) (q := 16384) (ps := []) (by kernel_rfl) ?_
      simp only [BS, Option.isSome_some, cls, Nat.reduceLT, Nat.reduceEqDiff, Nat.reduceAdd, if_true, if_false, List.map_cons, List.map_nil, List.length_cons, List.length_nil, List.set_cons_zero, List.set_cons_succ, List.getElem?_cons_zero, List.getElem?_cons_succ, Nat.reducePow, Nat.reduceDiv, Nat.reduceMod, Nat.reduceLeDiff, Bool.and_true, Bool.and_false, Nat.mul_one, Nat.zero_add, decide_true, decide_false, eq_self, Tryz.FFs557, r0, ov, lL, S.ld (b := br) (o := 7) (by first | exact m0 | exact m1 | exact m2 | exact m3 | exact m4 | exact m5 | exact m6 | exact m7) rfl, S.ld (b := br) (o := 2) (by first | exact m0 | exact m1 | exact m2 | exact m3 | exact m4 | exact m5 | exact m6 | exact m7) rfl]
      refine dq_newS (bs_new (by first | exact Tryz.u25 | exact Tryz.u38 | exact Tryz.u43 | exact Tryz.u44) (by first | exact Tryz.e2E | exact Tryz.e3E | exact Tryz.e4E | exact Tryz.e51E) (by decide) (by first | rfl | exact fillE )) S ?_; clear S; intro h bs S n_bs e_bs; simp only [repL, setL, vcells, List.cons_append, List.nil_append, List.append_nil, List.set_cons_zero, List.set_cons_succ, Nat.reduceMul, Nat.reduceAdd, Nat.zero_mul, Nat.zero_add, Nat.mul_one, Nat.one_mul] at S
      simp only [BS, cls, Nat.reduceLT, Nat.reduceEqDiff, Nat.reduceAdd, if_true, if_false, Nat.reducePow, Nat.reduceDiv, Nat.reduceMod, Nat.reduceLeDiff, Bool.and_true, decide_true, decide_false, eq_self]
      have src : srcCells h 4 (.slice (some ⟨bs, 0, none⟩) 1 1) = some (1, encE ⟨0, v, σ.L v⟩) := by simp only [srcCells]; rw [S.lds (b := bs) (o := 0) (n := 1 * 4) m0 (Nat.le_of_ble_eq_true rfl)]; rfl
      replace S := S.drop1
      refine dn_v (S.grow (j := 0) (m := 1) (new := encE ⟨0, v, σ.L v⟩) rfl Tryz.u44 Tryz.e51E (by decide) Tryz.n44 src rfl (by decide) rfl (by rw [flatMap_len encE_len]; show (_ + 4) * _ ≤ _; omega)) ?_
      clear S src; rintro h2 vE' S
      simp only [List.set_cons_zero] at S
      have fvE' : Fl vE' := (S.gown _ m0).1.fl
      simp only [BS, cls, Nat.reduceLT, Nat.reduceEqDiff, Nat.reduceAdd, if_true, if_false, Nat.reducePow, Nat.reduceDiv, Nat.reduceMod, Nat.reduceLeDiff, Bool.and_false, Nat.zero_add, decide_false, eq_self, Tryz.FFs557]
      refine dn_u (store_fl S (i := 1) rfl Tryz.s44 fvE' (Nat.lt_of_succ_le (Nat.le_of_ble_eq_true rfl)) Nat.one_ne_zero) ?_
      clear S; rintro h3 ⟨S, _⟩
      simp only [List.set_cons_zero, List.set_cons_succ] at S
      have eE : (σ.ev ++ [(⟨0, v, σ.L v⟩ : Ev)]).flatMap encE = σ.ev.flatMap encE ++ encE ⟨0, v, σ.L v⟩ := by rw [List.flatMap_append]; simp
      rw [← eE] at S
      have bq : ∀ c, hS.n ≤ c ∨ c ∈ B ∨ c = b6 → hq.n ≤ c := fun c hc => hc.elim (fun h => Nat.le_trans gh.n h) (fun h => h.elim (hBq c) (fun e => by subst e; exact q6))
      have wq := (((gh.fr (M := NoM)).trans Sp.fr (fun c hc => .inr (bq c (.inr hc)))).trans S.fr (fun c hc => .inr (bq c (kp c hc)))).gr
      have svc := sv.close hk
      have kn := fun {c} hc => S.key_own (b := c) hc
      have nS := S.fr.n
      have hFc : ∀ c ∈ F, c ∉ keys (srL br bl bb bk γ.nodes (ptrTo bp) (ptrTo ph) (.func (.func g1) #[] #[ptrTo ba]) (.func (.func g2) #[] #[ptrTo ba]) vE' (closeS σ v)) (srG vE' (closeS σ v)) := fun c hc hm => by
        rcases kn (List.mem_cons_of_mem _ hm) with h | h
        · have := lF2 c hc; omega
        · exact hFS c hc h
      have Hc : HeapAt _ F (ptrTo ph) γ.nodes (closeS σ v).K := H2.mo S.fr (fun c hc hm => hFS c hc hm)
      have Rc := SrAt.close (σ := closeS σ v) (vE := vE') S.drop1 Hc hFc
      have hBc : ∀ c ∈ keys (srL br bl bb bk γ.nodes (ptrTo bp) (ptrTo ph) (.func (.func g1) #[] #[ptrTo ba]) (.func (.func g2) #[] #[ptrTo ba]) vE' (closeS σ v)) (srG vE' (closeS σ v)) ++ F, hS.n ≤ c ∨ c ∈ B := fun c hc => by
        rcases List.mem_append.1 hc with hc | hc
        · have ne : c ≠ b6 := fun e => by
            subst e
            exact (List.nodup_cons.1 S.apart).1 hc
          rcases kn (List.mem_cons_of_mem _ hc) with h | h
          · exact .inl (by omega)
          · exact (kp c h).imp (fun h => h) (fun h => h.elim (fun h => h) (fun e => absurd e ne))
        · exact .inr (hk1 c hc)
      have hBcq : ∀ c ∈ keys (srL br bl bb bk γ.nodes (ptrTo bp) (ptrTo ph) (.func (.func g1) #[] #[ptrTo ba]) (.func (.func g2) #[] #[ptrTo ba]) vE' (closeS σ v)) (srG vE' (closeS σ v)) ++ F, hq.n ≤ c := fun c hc => bq c ((hBc c hc).imp (fun h => h) .inl)
      have okc := S.ok
      have k3 := fun {c} hc => S.key_lt (b := c) hc
      have bo : ∀ c, hS.n ≤ c ∨ c ∈ B ∨ c = b6 → (c ∈ B0 ∨ c = b6) ∨ hA'.n ≤ c := fun c hc => hc.elim (fun h => .inr (Nat.le_trans f.n h)) (fun h => h.elim (fun h => (hB c h).imp .inl (fun h => h)) (fun e => .inl (.inr e)))
      have lbc := Rc.lt okc
      by_cases hv : v = to
      · subst hv
        simp only [BS, Nat.reduceLT, Nat.reduceEqDiff, Nat.reduceAdd, if_true, if_false, List.map_cons, List.map_nil, List.append_nil, List.nil_append, true_and, decide_true, eq_self, r0, r2]
        refine step_ret (sback_ok S.ok) ?_
        rintro rv h4 ⟨g4, b1, b2, rfl, nb1, nb2, nb, e1, e2⟩
        replace S := S.call g4
        have gn4 := g4.n
        simp only [BS, Nat.reduceLT, Nat.reduceEqDiff, if_true, if_false, List.map_cons, List.map_nil, List.append_nil, List.nil_append, eq_self]
        have pl := (svc.bd v).2
        have ol4 := svc.len
        refine step_ret (collectI_ok S.ok (back_it okq (wq.trans g4) hγ hn (Rc.gr g4) svc (List.mem_append_right _ (by simp)) e1 e2 (fun h => by have := lbc b2 h; omega) nb (Nat.le_trans wq.n nb2)) (fun b hb => by subst hb; exact e2.lt g4.ok) (by omega)) ?_
        rintro vA h5 ⟨fW, gA5, hcA⟩
        replace S := S.step fW (fun c hc => .inr (by subst hc; omega)) (fun c hc e => by subst e; have := k3 hc; omega)
        simp only [BS, Nat.reduceLT, Nat.reduceEqDiff, if_true, if_false, List.map_cons, List.map_nil, List.append_nil, List.nil_append, eq_self]
        refine step_ret (reverseI_ok S.ok gA5 (by omega)) ?_
        rintro rv h6 ⟨fR, gR⟩
        have gn5 := fW.n
        have nAk : ∀ c, blkOf vA c → _ ≤ c := hcA
        replace S := S.step fR (fun c hc => .inr (by have := hcA c hc; omega)) (fun c hc hb => by have := k3 hc; have := hcA c hb; omega)
        have fvA : Fl vA := gR.fl
        have lL := (S.row (b := bl) m2).load1 (labC_at (L := σ.L) ov)
        simp only [BS]
        refine draw_step (hoist_no rfl) (q := 0) (ps := []) (by kernel_rfl) ?_
        simp only [BS, Option.isSome_some, cls, Nat.reduceLT, Nat.reduceEqDiff, Nat.reduceAdd, if_true, if_false, List.map_cons, List.map_nil, List.length_cons, List.length_nil, List.set_cons_zero, List.set_cons_succ, List.getElem?_cons_zero, List.getElem?_cons_succ, Nat.reducePow, Nat.reduceDiv, Nat.reduceMod, Nat.reduceLeDiff, Bool.and_false, Nat.mul_one, Nat.zero_add, decide_false, eq_self, Tryz.FFs557, r0, r2, r6, ov, lL, fvE', fvA, S.ld (b := br) (o := 2) (by first | exact m0 | exact m1 | exact m2 | exact m3 | exact m4 | exact m5 | exact m6 | exact m7) rfl, S.ld (b := br) (o := 7) (by first | exact m0 | exact m1 | exact m2 | exact m3 | exact m4 | exact m5 | exact m6 | exact m7) rfl]
        refine dn_u (S.store (i := 0) rfl Tryz.s46 (by intro x e; cases e) rfl (by simp only [vcells, List.all_cons, List.all_nil, fvE'.2.1, fvA.2.1, Bool.and_true]; rfl) (Nat.le_of_ble_eq_true rfl) Nat.one_ne_zero) ?_
        have b6A : ∀ c, blkOf vA c → c ≠ b6 := fun c hc e => by have := hcA c hc; have := k3 (c := b6) (by simp [keys]); omega
        have kA : ∀ c, blkOf vA c → ¬ blkOf vE' c := fun c hc he => by
          have := hcA c hc
          have := k3 (mem_keys_G (p := (vE', 4, _)) m0 (gkey_blk (S.gown _ m0).1 he))
          omega
        clear S; rintro h7 ⟨S, mo⟩
        simp only [List.set_cons_zero, List.set_cons_succ, vcells, lay, List.take, List.drop, List.nil_append, List.cons_append, List.append_nil, List.length_cons, List.length_nil, Nat.reduceAdd, Nat.add_zero] at S
        simp only [BS, tupleOf, Nat.reduceAdd, true_and, eq_self]
        refine (res_cell (by decide) (by simp only [setR_at, r6, ptr_eq, Nat.reduceEqDiff, reduceIte]; exact loadV_aggr Tryz.a46 Tryz.s46 (S.lds (b := b6) (o := 0) (n := 3) m0 (Nat.le_of_ble_eq_true rfl)))).2 (res_nil.2 ?_)
        have wq7 := (((gh.fr (M := NoM)).trans Sp.fr (fun c hc => .inr (bq c (.inr hc)))).trans S.fr (fun c hc => .inr (bq c (kp c hc)))).gr
        refine ⟨wq7, _, hE _ (.hit hpop), vA, vE', rfl, gR.of_get (fun c hc => mo.get c (gR.lt fR.ok hc) ?_), (S.gown _ m0).1, fun c hc => ⟨by have := hcA c hc; have := wq.n; omega, kA c hc⟩, fun c hc => ?_⟩
        · obtain ⟨a', n', e', _⟩ : ∃ a' n', vA = Value.slice (some ⟨a', 0, some 1⟩) n' n' ∧ a' = c := by
            rcases gR with ⟨e, _⟩ | ⟨b', n', e, _⟩
            · simp only [] at e; rw [e] at hc; cases hc
            · simp only [] at e; rw [e] at hc; cases hc; exact ⟨_, _, e, rfl⟩
          exact b6A c (by rw [e']; assumption)
        · exact bq c (((S.gown _ m0).2 c (gkey_blk (S.gown _ m0).1 hc)).elim (fun h => .inl (Nat.le_trans np h)) (fun h => kp c h))
      · have hv' : ¬ ((v : Int) = (to : Int)) := by omega
        simp only [BS, Nat.reduceLT, Nat.reduceEqDiff, Nat.reduceAdd, if_true, if_false, List.map_cons, List.map_nil, List.append_nil, List.nil_append, true_and, decide_false, eq_self, r0, r2, hv']
        obtain ⟨sn1, sn2⟩ := sv.next hA hk
        refine step_ret (sscan_ok okq wq hγ hn Rc hBcq hal hpi hp ov svc (sv.room v) (by show (σ.ev ++ [_]).length ≤ 10000; simp; omega)) ?_
        rintro rv h4 ⟨f4, B4, R4, hB4⟩
        simp only [BS]
        have es := ev_scanS γ.arcs al pi v (closeS σ v)
        have eO : (scanS γ.arcs al pi v (closeS σ v)).O = σ.O ++ [v] := sn2.O
        have ec : (closeS σ v).ev.length = σ.ev.length + 1 := by show (σ.ev ++ [_]).length = _; simp
        have snl := sn1.len
        rw [eO] at snl
        simp at snl
        refine ih _ _ _ (by rw [eO]; simp; omega) ⟨B4, ?_, ?_, R4, ?_, sn1, by rw [eO]; simp; omega, fun r hr => hE r (.step hpop hv hr), by simp [setR, r0, ptr_eq], by simp [setR, r1], by simp [setR, r2], by simp [setR, r6, ptr_eq]⟩
        · exact ((f.trans Sp.fr (fun c hc => bo c (.inr hc))).trans S.fr (fun c hc => bo c (kp c hc))).trans f4 (fun c hc => bo c ((hBc c hc).imp (fun h => h) .inl))
        · exact f4.has (o := .row _ 1) (S.row m0) (fun hm => (hBc b6 hm).elim (fun h => by have := f.n; omega) b6B)
        · exact fun c hc => (hB4 c hc).elim (fun h => (hBc c h).elim (fun h => .inr (Nat.le_trans f.n h)) (hB c)) (fun h => .inr (by have := f.n; omega))
  · have k0 : (initS pi s).ev.length = 0 := by unfold initS; rw [ev_reach]; rfl
    exact ⟨B1, f1.mono (fun c hc => .inl hc), f1.has (o := .row _ 1) row6 n6, R1, hB1, sv_init hs, by omega, fun r hr => hr, by simp [setR, argR_zero, ptr_eq], by simp [setR, argR_zero, argR_succ], by simp [setR, argR_zero, argR_succ], by simp [setR, ptr_eq]⟩
end Go.Ab

end
section
namespace Go.Ab
open Go.Proofs
set_option maxRecDepth 10000
open Tryz in
def Tryz.FFs6112 := aj a1 <| aj s1 <| aj z1 <| aj n1 <| aj u2 <| aj a2 <| aj s2 <| aj z2 <| aj i2 <| aj u3 <| aj a3 <| aj s3 <| aj z3 <| aj i3 <| aj u4 <| aj a4 <| aj s4 <| aj z4 <| aj n4 <| aj u25 <| aj a25 <| aj s25 <| aj z25 <| aj q25 <| aj n25 <| aj u38 <| aj a38 <| aj s38 <| aj z38 <| aj q38 <| aj n38 <| aj a40 <| aj s40 <| aj z40 <| aj i40 <| aj n40 <| aj p40 <| aj ff40 <| d40
open Tryz in
def Tryz.FFs6113 := aj a1 <| aj s1 <| aj z1 <| aj n1 <| aj u2 <| aj a2 <| aj s2 <| aj z2 <| aj i2 <| aj u3 <| aj a3 <| aj s3 <| aj z3 <| aj i3 <| aj u4 <| aj a4 <| aj s4 <| aj z4 <| aj n4 <| aj u25 <| aj a25 <| aj s25 <| aj z25 <| aj q25 <| aj n25 <| aj u38 <| aj a38 <| aj s38 <| aj z38 <| aj q38 <| aj n38 <| aj a40 <| aj s40 <| aj z40 <| aj i40 <| aj n40 <| aj p40 <| aj ff40 <| d40
open Tryz in
def Tryz.FFs656 := aj a1 <| aj s1 <| aj z1 <| aj n1 <| aj u2 <| aj a2 <| aj s2 <| aj z2 <| aj i2 <| aj u3 <| aj a3 <| aj s3 <| aj z3 <| aj i3 <| aj u4 <| aj a4 <| aj s4 <| aj z4 <| aj n4 <| aj u5 <| aj a5 <| aj s5 <| aj z5 <| aj i5 <| aj u6 <| aj a6 <| aj s6 <| aj z6 <| aj i6 <| aj u25 <| aj a25 <| aj s25 <| aj z25 <| aj q25 <| aj n25 <| aj a31 <| aj s31 <| aj z31 <| aj i31 <| aj n31 <| aj p31 <| aj ff31 <| aj d31 <| aj u33 <| aj a33 <| aj s33 <| aj z33 <| aj q33 <| aj i33 <| aj n33 <| aj u38 <| aj a38 <| aj s38 <| aj z38 <| aj q38 <| aj n38 <| aj a40 <| aj s40 <| aj z40 <| aj i40 <| aj n40 <| aj p40 <| aj ff40 <| aj d40 <| aj u43 <| aj a43 <| aj s43 <| aj z43 <| aj q43 <| aj n43 <| aj u44 <| aj a44 <| aj s44 <| aj z44 <| aj q44 <| aj n44 <| aj a51 <| aj s51 <| aj z51 <| aj i51 <| aj n51 <| aj p51 <| aj ff51 <| aj d51 <| aj a111 <| aj s111 <| aj z111 <| aj n111 <| aj u114 <| aj a114 <| aj s114 <| aj z114 <| aj q114 <| aj i114 <| aj n114 <| aj u163 <| aj a163 <| aj s163 <| aj z163 <| aj q163 <| aj n163 <| aj a165 <| aj s165 <| aj z165 <| aj i165 <| aj n165 <| aj p165 <| aj ff165 <| aj d165 <| aj u178 <| aj a178 <| aj s178 <| aj z178 <| aj q178 <| aj i178 <| aj n178 <| aj a180 <| aj s180 <| aj z180 <| aj n180 <| aj a182 <| aj s182 <| aj z182 <| aj i182 <| aj n182 <| aj p182 <| aj ff182 <| aj d182 <| aj a237 <| aj s237 <| aj z237 <| aj i237 <| aj n237 <| aj p237 <| aj ff237 <| aj d237 <| aj a239 <| aj s239 <| aj z239 <| aj i239 <| aj n239 <| aj p239 <| aj ff239 <| d239
open Tryz in
def Tryz.FFs653 := aj a1 <| aj s1 <| aj z1 <| aj n1 <| aj u3 <| aj a3 <| aj s3 <| aj z3 <| aj i3 <| aj u4 <| aj a4 <| aj s4 <| aj z4 <| aj n4 <| aj u38 <| aj a38 <| aj s38 <| aj z38 <| aj q38 <| n38
open Tryz in
def Tryz.FFs655 := aj a1 <| aj s1 <| aj z1 <| aj n1 <| aj u2 <| aj a2 <| aj s2 <| aj z2 <| aj i2 <| aj u3 <| aj a3 <| aj s3 <| aj z3 <| aj i3 <| aj u4 <| aj a4 <| aj s4 <| aj z4 <| aj n4 <| aj u25 <| aj a25 <| aj s25 <| aj z25 <| aj q25 <| n25
open Tryz in
def Tryz.FFs654 := aj a1 <| aj s1 <| aj z1 <| aj n1 <| aj u2 <| aj a2 <| aj s2 <| aj z2 <| aj i2 <| aj u3 <| aj a3 <| aj s3 <| aj z3 <| aj i3 <| aj u4 <| aj a4 <| aj s4 <| aj z4 <| aj n4 <| aj u25 <| aj a25 <| aj s25 <| aj z25 <| aj q25 <| aj n25 <| aj u29 <| aj a29 <| aj s29 <| aj z29 <| aj q29 <| aj n29 <| aj a31 <| aj s31 <| aj z31 <| aj i31 <| aj n31 <| aj p31 <| aj ff31 <| aj d31 <| aj u33 <| aj a33 <| aj s33 <| aj z33 <| aj q33 <| aj i33 <| aj n33 <| aj u43 <| aj a43 <| aj s43 <| aj z43 <| aj q43 <| aj n43 <| aj a56 <| aj s56 <| aj z56 <| aj i56 <| aj n56 <| aj p56 <| aj ff56 <| aj d56 <| aj u163 <| aj a163 <| aj s163 <| aj z163 <| aj q163 <| aj n163 <| aj a165 <| aj s165 <| aj z165 <| aj i165 <| aj n165 <| aj p165 <| aj ff165 <| d165
open Tryz in
def Tryz.FFs652 := aj a1 <| aj s1 <| aj z1 <| aj n1 <| aj u3 <| aj a3 <| aj s3 <| aj z3 <| aj i3 <| aj u4 <| aj a4 <| aj s4 <| aj z4 <| aj n4 <| aj a31 <| aj s31 <| aj z31 <| aj i31 <| aj n31 <| aj p31 <| aj ff31 <| aj d31 <| aj u33 <| aj a33 <| aj s33 <| aj z33 <| aj q33 <| aj i33 <| aj n33 <| aj u163 <| aj a163 <| aj s163 <| aj z163 <| aj q163 <| aj n163 <| aj a165 <| aj s165 <| aj z165 <| aj i165 <| aj n165 <| aj p165 <| aj ff165 <| d165
open Tryz in
def Tryz.FFs614 := aj a1 <| aj s1 <| aj z1 <| aj n1 <| aj u2 <| aj a2 <| aj s2 <| aj z2 <| aj i2 <| aj u3 <| aj a3 <| aj s3 <| aj z3 <| aj i3 <| aj u4 <| aj a4 <| aj s4 <| aj z4 <| aj n4 <| aj u5 <| aj a5 <| aj s5 <| aj z5 <| aj i5 <| aj u6 <| aj a6 <| aj s6 <| aj z6 <| aj i6 <| aj a7 <| aj s7 <| aj z7 <| aj i7 <| aj n7 <| aj p7 <| aj ff7 <| aj d7 <| aj a8 <| aj s8 <| aj z8 <| aj i8 <| aj n8 <| aj p8 <| aj ff8 <| aj d8 <| aj u25 <| aj a25 <| aj s25 <| aj z25 <| aj q25 <| aj n25 <| aj a31 <| aj s31 <| aj z31 <| aj i31 <| aj n31 <| aj p31 <| aj ff31 <| aj d31 <| aj u33 <| aj a33 <| aj s33 <| aj z33 <| aj q33 <| aj i33 <| aj n33 <| aj u38 <| aj a38 <| aj s38 <| aj z38 <| aj q38 <| aj n38 <| aj a40 <| aj s40 <| aj z40 <| aj i40 <| aj n40 <| aj p40 <| aj ff40 <| aj d40 <| aj u43 <| aj a43 <| aj s43 <| aj z43 <| aj q43 <| aj n43 <| aj u44 <| aj a44 <| aj s44 <| aj z44 <| aj q44 <| aj n44 <| aj a46 <| aj s46 <| aj z46 <| aj i46 <| aj n46 <| aj p46 <| aj ff46 <| aj d46 <| aj u47 <| aj a47 <| aj s47 <| aj z47 <| aj i47 <| aj a51 <| aj s51 <| aj z51 <| aj i51 <| aj n51 <| aj p51 <| aj ff51 <| aj d51 <| aj a111 <| aj s111 <| aj z111 <| aj n111 <| aj u114 <| aj a114 <| aj s114 <| aj z114 <| aj q114 <| aj i114 <| aj n114 <| aj u163 <| aj a163 <| aj s163 <| aj z163 <| aj q163 <| aj n163 <| aj a165 <| aj s165 <| aj z165 <| aj i165 <| aj n165 <| aj p165 <| aj ff165 <| aj d165 <| aj u178 <| aj a178 <| aj s178 <| aj z178 <| aj q178 <| aj i178 <| aj n178 <| aj a180 <| aj s180 <| aj z180 <| aj n180 <| aj a182 <| aj s182 <| aj z182 <| aj i182 <| aj n182 <| aj p182 <| aj ff182 <| d182
def alF (als : List Bool) (a : Nat) : Bool := als.isEmpty || als.getD a false
def piF (pis : List Int) (v : Nat) : Int := if pis = [] then 0 else max (-72057594037927936) (pis.getD v 0)
theorem piF_lo (pis : List Int) (v : Nat) : -(FAR : Int) ≤ piF pis v := by
  have := FAR_eq
  unfold piF
  split <;> omega
theorem al_ok {hq : Hp} {ba n : Nat} {vAl : Value} {als : List Bool} (l2 : hq.load ba 2 1 = some [vAl]) (sl : SlAt hq 1 encB vAl als) (hl : als = [] ∨ als.length = n) : AlF Tryz.abEnv hq 112 ba n (alF als) := by
  intro h g a ha
  have S := St.init (M := NoM) g.ok
  have q2 := g.load l2
  have sl2 := sl.gr g
  rcases hl with rfl | hl
  · refine enter_ret (n := 15) (rs := [.tmp 3]) rfl Tryz.e112 rfl rfl rfl (Nat.le_of_ble_eq_true rfl) ?_
    simp only [BS, tupleOf, Nat.reduceLT, Nat.reduceEqDiff, if_true, if_false, List.length_nil, List.getElem?_cons_zero, List.getElem?_cons_succ, Int.cast_ofNat_Int, Nat.zero_add, Bool.not_true, decide_true, eq_self, Tryz.FFs6112, q2, sl2.lenq]
    exact ⟨rfl, S.gr⟩
  · have c0 : ¬ ((als.length : Int) = 0) := by omega
    have ha' : a < als.length := by omega
    obtain ⟨c, o, hidx, hld⟩ := sl2.ix (kd := .i64) encB_len ha'
    have e : alF als a = als[a] := by
      unfold alF
      cases als with
      | nil => simp at ha'
      | cons b l =>
        show (false || (b :: l).getD a false) = _
        rw [List.getD_eq_getElem?_getD, List.getElem?_eq_getElem ha']; rfl
    rw [e]
    refine enter_ret (n := 15) (rs := [.tmp 3]) rfl Tryz.e112 rfl rfl rfl (Nat.le_of_ble_eq_true rfl) ?_
    simp only [BS, tupleOf, Nat.reduceLT, Nat.reduceEqDiff, if_true, if_false, List.getElem?_cons_zero, List.getElem?_cons_succ, Nat.zero_add, true_and, Bool.not_false, decide_false, eq_self, Tryz.FFs6112, q2, sl2.lenq, c0, hidx, hld, encB]
    exact S.gr
theorem pi_ok {hq : Hp} {ba n : Nat} {vPi : Value} {pis : List Int} (l2 : hq.load ba 3 1 = some [vPi]) (sl : SlAt hq 1 (encI .i64) vPi pis) (hl : pis = [] ∨ pis.length = n) : PiF Tryz.abEnv hq 113 ba n (piF pis) := by
  intro h g a ha
  have S := St.init (M := NoM) g.ok
  have q2 := g.load l2
  have sl2 := sl.gr g
  rcases hl with rfl | hl
  · refine enter_ret (n := 14) (rs := [.tmp 3]) rfl Tryz.e113 rfl rfl rfl (Nat.le_of_ble_eq_true rfl) ?_
    simp only [BS, tupleOf, Nat.reduceLT, Nat.reduceEqDiff, if_true, if_false, List.length_nil, Int.cast_ofNat_Int, Nat.zero_add, decide_true, eq_self, Tryz.FFs6113, q2, sl2.lenq]
    exact ⟨rfl, S.gr⟩
  · have c0 : ¬ ((pis.length : Int) = 0) := by omega
    have ha' : a < pis.length := by omega
    obtain ⟨c, o, hidx, hld⟩ := sl2.ix (kd := .i64) (encI_len .i64) ha'
    have e : piF pis a = max (-72057594037927936) pis[a] := by
      unfold piF
      rw [if_neg (by intro e; subst e; simp at ha')]
      simp [List.getD_eq_getElem?_getD, ha']
    rw [e]
    refine enter_ret (n := 14) (rs := [.tmp 3]) rfl Tryz.e113 rfl rfl rfl (Nat.le_of_ble_eq_true rfl) ?_
    simp only [BS, tupleOf, Nat.reduceLT, Nat.reduceEqDiff, if_true, if_false, Nat.zero_add, true_and, decide_false, eq_self, Tryz.FFs6113, q2, sl2.lenq, c0, hidx, hld, encI]
    exact S.gr
theorem sstart_ok {h0 : Hp} (ok : h0.t.Sized h0.n) {γ : Gra} (hγ : Good γ) {nb bp : Nat} (hn : NetAt h0 nb (ptrTo bp) γ) {s to : Int} {vAl vPi : Value} (fA : Fl vAl) (fP : Fl vPi) :
    Ret Tryz.abEnv 56 [ptrTo bp, .agg ⟨[.int .i64 s, .int .i64 to, vAl, vPi]⟩] h0 fun r h' => ∃ br ba hq B, r = ptrTo br ∧ Gr h0 hq ∧ Gr hq h' ∧ hq.load ba 2 1 = some [vAl] ∧ hq.load ba 3 1 = some [vPi] ∧ SrAt h' B br (ptrTo bp) (.func (.func 112) #[] #[ptrTo ba]) (.func (.func 113) #[] #[ptrTo ba]) γ.nodes zS ∧ ∀ c ∈ B, hq.n ≤ c := by
  have n1 := hγ.n1
  have n2 := hγ.n2
  have S := St.init (M := NoM) ok
  refine enter_ret (n := 34) (rs := [.tmp 4]) rfl Tryz.e56 rfl rfl rfl (Nat.le_of_ble_eq_true rfl) ?_
  simp only [BS, Nat.reduceLT]
  refine step_newS (box_new (by intro x e; cases e)) S ?_; clear S; intro h ba S n_ba; simp only [vcells] at S
  have gq := S.gr
  have l2 := S.ld (b := ba) (o := 2) m0 rfl
  have l3 := S.ld (b := ba) (o := 3) m0 rfl
  clear S
  rename Hp => hq
  replace hn := hn.gr gq
  have S := St.init (M := NoM) gq.ok
  simp only [BS]
  refine draw_step (hoist_no rfl) (q := 2880) (ps := []) (by kernel_rfl) ?_
  simp only [BS, cls, Nat.reduceLT, Nat.reduceEqDiff, Nat.reduceAdd, if_true, if_false, List.map_cons, List.map_nil, List.append_nil, List.nil_append, Nat.reducePow, Nat.reduceDiv, Nat.reduceMod, Nat.reduceLeDiff, Bool.and_true, Bool.and_false, Nat.zero_add, decide_true, decide_false, eq_self]
  refine dn_pure (netNodes_ok S.ok (hn.gr S.gr)) ?_; intro h g; replace S := S.call g; clear g
  simp only [BS, cls, Nat.reduceLT, Nat.reduceEqDiff, Nat.reduceAdd, if_true, if_false, List.map_cons, List.map_nil, List.append_nil, List.nil_append, Nat.reducePow, Nat.reduceDiv, Nat.reduceMod, Nat.reduceLeDiff, Bool.and_true, decide_true, decide_false, eq_self]
  refine dn_ret (heapNew_ok S.ok) ?_; rintro rp h ⟨g, F, H, hF⟩
  have k0 := S.fr.n
  replace S := S.call g; clear g
  have pp : ∃ b, rp = ptrTo b := by obtain ⟨b, _, _, e, _⟩ := H.ex; exact ⟨b, e⟩
  obtain ⟨ph, rfl⟩ := pp
  have S0 := S
  have lF := H.lt S0.ok
  rename Hp => h_H
  replace S := S.base
  simp only [BS, cls, Nat.reduceLT, Nat.reduceEqDiff, Nat.reduceAdd, if_true, if_false, List.map_cons, List.map_nil, List.append_nil, List.nil_append, Nat.reducePow, Nat.reduceDiv, Nat.reduceMod, Nat.reduceLeDiff, Bool.and_true, Bool.and_false, decide_true, decide_false, eq_self]
  refine dn_pure (netNodes_ok S.ok (hn.gr (S0.rebase S).gr)) ?_; intro h g; replace S := S.call g; clear g
  simp only [BS, cls, Nat.reduceLT, Nat.reduceEqDiff, Nat.reduceAdd, if_true, if_false, Nat.reducePow, Nat.reduceDiv, Nat.reduceMod, Nat.reduceLeDiff, Bool.and_true, decide_true, eq_self]
  refine dq_newS (mk_new (by first | exact Tryz.u25 | exact Tryz.u38 | exact Tryz.u43 | exact Tryz.u44 | exact Tryz.u163) (by first | exact Tryz.e2E | exact Tryz.e3E | exact Tryz.e4E | exact Tryz.e43E | exact Tryz.e51E) (by omega) (by omega)) S ?_; clear S; intro h bl S n_bl e_bl
  simp only [BS, cls, Nat.reduceLT, Nat.reduceEqDiff, Nat.reduceAdd, if_true, if_false, List.map_cons, List.map_nil, List.append_nil, List.nil_append, Nat.reducePow, Nat.reduceDiv, Nat.reduceMod, Nat.reduceLeDiff, Bool.and_true, Bool.and_false, decide_true, decide_false, eq_self, Int.toNat_natCast]
  refine dq_pure (netNodes_ok (h0 := { h with lo := h.n }) S.ok ((hn.gr (S0.rebase S).gr).keep S.ok (fun _ _ => rfl))) ?_; intro h g; replace S := S.call g; clear g
  simp only [BS, cls, Nat.reduceLT, Nat.reduceEqDiff, Nat.reduceAdd, if_true, if_false, Nat.reducePow, Nat.reduceDiv, Nat.reduceMod, Nat.reduceLeDiff, Bool.and_true, decide_true, eq_self]
  refine dq_newS (mk_new (by first | exact Tryz.u25 | exact Tryz.u38 | exact Tryz.u43 | exact Tryz.u44 | exact Tryz.u163) (by first | exact Tryz.e2E | exact Tryz.e3E | exact Tryz.e4E | exact Tryz.e43E | exact Tryz.e51E) (by omega) (by omega)) S ?_; clear S; intro h bk S n_bk e_bk
  simp only [BS, Option.isSome_some, cls, Nat.reduceLT, Nat.reduceEqDiff, Nat.reduceAdd, if_true, if_false, List.map_cons, List.map_nil, List.length_cons, List.length_nil, List.set_cons_zero, List.set_cons_succ, List.getElem?_cons_zero, List.getElem?_cons_succ, Nat.reducePow, Nat.reduceDiv, Nat.reduceMod, Nat.reduceLeDiff, Bool.and_true, Bool.and_false, Nat.zero_add, decide_true, decide_false, eq_self, Tryz.FFs656, Int.toNat_natCast]
  refine dq_newS (box_new (by intro x e; cases e)) S ?_; clear S; intro h br S n_br e_br; simp only [vcells] at S
  simp only [BS, cls, Nat.reduceLT, Nat.reduceEqDiff, Nat.reduceAdd, if_true, if_false, List.map_cons, List.map_nil, Nat.reducePow, Nat.reduceDiv, Nat.reduceMod, Nat.reduceLeDiff, Bool.and_false, true_and, decide_false, eq_self]
  refine step_newS (bs_new (by first | exact Tryz.u25 | exact Tryz.u38 | exact Tryz.u43 | exact Tryz.u44 | exact Tryz.u163) (by first | exact Tryz.e2E | exact Tryz.e3E | exact Tryz.e4E | exact Tryz.e43E | exact Tryz.e51E) (by decide) (by first | rfl | exact fillE )) S ?_; clear S; intro h bs S n_bs; simp only [repL, setL, vcells, List.cons_append, List.nil_append, List.append_nil, List.set_cons_zero, List.set_cons_succ, Nat.reduceMul, Nat.reduceAdd, Nat.zero_mul, Nat.zero_add, Nat.mul_one, Nat.one_mul] at S
  simp only [BS, Nat.reduceLT, Nat.reduceEqDiff, if_true, if_false, List.map_cons, List.map_nil, List.append_nil, List.nil_append, eq_self]
  refine step_pure (netNodes_ok S.ok (hn.gr (S0.rebase S).gr)) ?_; intro h g; replace S := S.call g; clear g
  simp only [BS, Nat.reduceLT, Nat.reduceEqDiff, if_true, if_false, List.map_cons, List.map_nil, List.append_nil, List.nil_append, eq_self]
  have kl := fun {c} (hc : c ∈ _) => S.key_lt (b := c) hc
  have kn := S.fr.n
  refine step_ret (repI_ok S.ok (x := -1) (.inr ⟨bs, 0, none, 1, rfl, Nat.le_refl _, S.lds (b := bs) (o := 0) (n := 1 * 1) m0 (Nat.le_of_ble_eq_true rfl)⟩) n1 (by omega)) ?_; intro v h ⟨g, bb, eb, nb', Rb⟩; replace S := S.call g; clear g
  subst eb
  replace S := S.drop1
  replace S := S.push (b := bb) (o := .row _ 1) (.inl (Nat.le_trans kn nb')) Rb (fun hm => by have := kl (List.mem_cons_of_mem _ hm); omega)
  simp only [BS, Nat.reduceLT, Nat.reduceEqDiff, if_true, if_false, Nat.zero_add, eq_self, Tryz.FFs656]
  first | refine step_u (store_fl S (i := 0) rfl ?_ ?_ ?_ Nat.one_ne_zero) ?_ | refine step_u (store_fl S (i := 1) rfl ?_ ?_ ?_ Nat.one_ne_zero) ?_ | refine step_u (store_fl S (i := 2) rfl ?_ ?_ ?_ Nat.one_ne_zero) ?_ | refine step_u (store_fl S (i := 3) rfl ?_ ?_ ?_ Nat.one_ne_zero) ?_ | refine step_u (store_fl S (i := 4) rfl ?_ ?_ ?_ Nat.one_ne_zero) ?_ | refine step_u (store_fl S (i := 5) rfl ?_ ?_ ?_ Nat.one_ne_zero) ?_ | refine step_u (store_fl S (i := 6) rfl ?_ ?_ ?_ Nat.one_ne_zero) ?_ | refine step_u (store_fl S (i := 7) rfl ?_ ?_ ?_ Nat.one_ne_zero) ?_
  · exact (by simp only [Tryz.FFs656])
  · exact (by first | exact fl_int | exact fl_slice | exact fl_ptr | exact fl_bool | exact fl_map | exact fl_func | exact fl_nili | exact fl_iface | exact fl_nilf | exact fl_str | assumption)
  · exact Nat.lt_of_succ_le (Nat.le_of_ble_eq_true rfl)
  clear S; rintro h ⟨S, mo⟩; clear mo; simp only [List.set_cons_zero, List.set_cons_succ, vcells, lay, List.take, List.drop, List.nil_append, List.cons_append, List.append_nil, List.length_cons, List.length_nil, Nat.reduceAdd, Nat.add_zero] at S
  simp only [BS, Nat.reduceLT, Nat.reduceEqDiff, if_true, if_false, List.map_cons, List.map_nil, List.map_toArray, Nat.zero_add, eq_self, Tryz.FFs656]
  first | refine step_u (store_fl S (i := 0) rfl ?_ ?_ ?_ Nat.one_ne_zero) ?_ | refine step_u (store_fl S (i := 1) rfl ?_ ?_ ?_ Nat.one_ne_zero) ?_ | refine step_u (store_fl S (i := 2) rfl ?_ ?_ ?_ Nat.one_ne_zero) ?_ | refine step_u (store_fl S (i := 3) rfl ?_ ?_ ?_ Nat.one_ne_zero) ?_ | refine step_u (store_fl S (i := 4) rfl ?_ ?_ ?_ Nat.one_ne_zero) ?_ | refine step_u (store_fl S (i := 5) rfl ?_ ?_ ?_ Nat.one_ne_zero) ?_ | refine step_u (store_fl S (i := 6) rfl ?_ ?_ ?_ Nat.one_ne_zero) ?_ | refine step_u (store_fl S (i := 7) rfl ?_ ?_ ?_ Nat.one_ne_zero) ?_
  · exact (by simp only [Tryz.FFs656])
  · exact (by first | exact fl_int | exact fl_slice | exact fl_ptr | exact fl_bool | exact fl_map | exact fl_func | exact fl_nili | exact fl_iface | exact fl_nilf | exact fl_str | assumption)
  · exact Nat.lt_of_succ_le (Nat.le_of_ble_eq_true rfl)
  clear S; rintro h ⟨S, mo⟩; clear mo; simp only [List.set_cons_zero, List.set_cons_succ, vcells, lay, List.take, List.drop, List.nil_append, List.cons_append, List.append_nil, List.length_cons, List.length_nil, Nat.reduceAdd, Nat.add_zero] at S
  simp only [BS, Nat.reduceLT, Nat.reduceEqDiff, if_true, if_false, List.map_cons, List.map_nil, List.map_toArray, Nat.zero_add, eq_self, Tryz.FFs656]
  first | refine step_u (store_fl S (i := 0) rfl ?_ ?_ ?_ Nat.one_ne_zero) ?_ | refine step_u (store_fl S (i := 1) rfl ?_ ?_ ?_ Nat.one_ne_zero) ?_ | refine step_u (store_fl S (i := 2) rfl ?_ ?_ ?_ Nat.one_ne_zero) ?_ | refine step_u (store_fl S (i := 3) rfl ?_ ?_ ?_ Nat.one_ne_zero) ?_ | refine step_u (store_fl S (i := 4) rfl ?_ ?_ ?_ Nat.one_ne_zero) ?_ | refine step_u (store_fl S (i := 5) rfl ?_ ?_ ?_ Nat.one_ne_zero) ?_ | refine step_u (store_fl S (i := 6) rfl ?_ ?_ ?_ Nat.one_ne_zero) ?_ | refine step_u (store_fl S (i := 7) rfl ?_ ?_ ?_ Nat.one_ne_zero) ?_
  · exact (by simp only [Tryz.FFs656])
  · exact (by first | exact fl_int | exact fl_slice | exact fl_ptr | exact fl_bool | exact fl_map | exact fl_func | exact fl_nili | exact fl_iface | exact fl_nilf | exact fl_str | assumption)
  · exact Nat.lt_of_succ_le (Nat.le_of_ble_eq_true rfl)
  clear S; rintro h ⟨S, mo⟩; clear mo; simp only [List.set_cons_zero, List.set_cons_succ, vcells, lay, List.take, List.drop, List.nil_append, List.cons_append, List.append_nil, List.length_cons, List.length_nil, Nat.reduceAdd, Nat.add_zero] at S
  simp only [BS, tupleOf, Nat.reduceLT, Nat.reduceEqDiff, if_true, if_false, eq_self]
  have e1 : repL [Value.int .i64 0] ((γ.nodes : Int)).toNat = labC γ.nodes zS.L := by rw [rep_map]; rfl
  have e2 : repL [Value.bool false] ((γ.nodes : Int)).toNat = clC γ.nodes zS.O := by
    rw [rep_map]; unfold clC zS
    exact List.map_congr_left fun v _ => by simp
  have e3 : List.replicate γ.nodes (Value.int .i64 (-1)) = byC γ.nodes zS.P := by
    show _ = (List.range γ.nodes).map fun _ => Value.int .i64 (-1)
    rw [List.map_const', List.length_range]
  rw [e1, e2, e3] at S
  have ap := S.apart
  have kl := fun {c} hc => S.key_own (b := c) hc
  have n0 := S0.fr.n
  have hK : ∀ c ∈ keys (srL br bl bb bk γ.nodes (ptrTo bp) (ptrTo ph) (.func (.func 112) #[] #[ptrTo ba]) (.func (.func 113) #[] #[ptrTo ba]) (.slice none 0 0) zS) (srG (.slice none 0 0) zS), h_H.n ≤ c := fun c hc => by
    have : c = bb ∨ c = br ∨ c = bk ∨ c = bl := by simp [srL, srG, keys, gkey] at hc; omega
    rcases kl (c := c) (by simp [keys]; omega) with h | h
    · exact h
    · simp [keys] at h
  refine ⟨br, ba, hq, _, rfl, gq, (S0.rebase S).gr, l2, l3, ⟨bl, bb, bk, ph, F, .slice none 0 0, rfl, fun q hq => ?_, .inl ⟨rfl, rfl⟩, ?_, H.mo S.fr (fun c _ h => by simp [keys] at h), fun c hc hm => ?_⟩, fun c hc => ?_⟩
  · simp only [srL, List.mem_cons, List.not_mem_nil, or_false] at hq
    rcases hq with rfl | rfl | rfl | rfl
    · exact S.row m1
    · exact S.row m3
    · exact S.row m0
    · exact S.row m2
  · simp [srL, srG, keys, gkey] at ap ⊢
    exact ⟨by omega, by omega, by omega, .nil⟩
  · have := lF c hc
    have := hK c hm
    omega
  · rcases List.mem_append.1 hc with hc | hc
    · exact Nat.le_trans n0 (hK c hc)
    · exact Nat.le_trans k0 (hF c hc)
theorem fitsB_ok {h0 : Hp} (ok : h0.t.Sized h0.n) {v : Value} {xs : List Bool} (hv : SlAt h0 1 encB v xs) {n : Nat} (hl : xs = [] ∨ xs.length = n) : Pure Tryz.abEnv 53 [v, .int .i64 n] h0 (.bool true) := by
  have S := St.init (M := NoM) ok
  by_cases c0 : (xs.length : Int) = 0
  · refine enter_ret (n := 14) (rs := [.tmp 4]) rfl Tryz.e53 rfl rfl rfl (Nat.le_of_ble_eq_true rfl) ?_
    simp only [BS, tupleOf, Nat.reduceLT, Nat.reduceEqDiff, if_true, if_false, List.getElem?_cons_zero, List.getElem?_cons_succ, true_and, Bool.not_true, decide_true, eq_self, Tryz.FFs653, hv.lenq, c0]
    exact S.gr
  · have c1 : (xs.length : Int) = (n : Int) := by
      rcases hl with rfl | h
      · simp at c0
      · omega
    rw [c1] at c0
    refine enter_ret (n := 14) (rs := [.tmp 4]) rfl Tryz.e53 rfl rfl rfl (Nat.le_of_ble_eq_true rfl) ?_
    simp only [BS, tupleOf, Nat.reduceLT, Nat.reduceEqDiff, if_true, if_false, List.getElem?_cons_zero, List.getElem?_cons_succ, true_and, Bool.not_false, decide_true, decide_false, eq_self, Tryz.FFs653, hv.lenq, c0, c1]
    exact S.gr
theorem fitsI_ok {h0 : Hp} (ok : h0.t.Sized h0.n) {v : Value} {xs : List Int} (hv : SlAt h0 1 (encI .i64) v xs) {n : Nat} (hl : xs = [] ∨ xs.length = n) : Pure Tryz.abEnv 55 [v, .int .i64 n] h0 (.bool true) := by
  have S := St.init (M := NoM) ok
  by_cases c0 : (xs.length : Int) = 0
  · refine enter_ret (n := 14) (rs := [.tmp 4]) rfl Tryz.e55 rfl rfl rfl (Nat.le_of_ble_eq_true rfl) ?_
    simp only [BS, tupleOf, Nat.reduceLT, Nat.reduceEqDiff, if_true, if_false, List.getElem?_cons_zero, List.getElem?_cons_succ, true_and, Bool.not_true, decide_true, eq_self, Tryz.FFs655, hv.lenq, c0]
    exact S.gr
  · have c1 : (xs.length : Int) = (n : Int) := by
      rcases hl with rfl | h
      · simp at c0
      · omega
    rw [c1] at c0
    refine enter_ret (n := 14) (rs := [.tmp 4]) rfl Tryz.e55 rfl rfl rfl (Nat.le_of_ble_eq_true rfl) ?_
    simp only [BS, tupleOf, Nat.reduceLT, Nat.reduceEqDiff, if_true, if_false, List.getElem?_cons_zero, List.getElem?_cons_succ, true_and, Bool.not_false, decide_true, decide_false, eq_self, Tryz.FFs655, hv.lenq, c0, c1]
    exact S.gr
theorem netArcs_ok {h0 : Hp} (ok : h0.t.Sized h0.n) {p : Value} {γ : Gra} {nb : Nat} (c : NetAt h0 nb p γ) : Pure Tryz.abEnv 54 [p] h0 (.int .i64 γ.arcs.length) := by
  have S := St.init (M := NoM) ok
  obtain ⟨b, vx, vy, va, vo, vi, rfl, r, ga, _⟩ := c.ex
  have l0 := r.load1 (o := 3) rfl
  refine enter_ret (n := 11) (rs := [.tmp 2]) rfl Tryz.e54 rfl rfl rfl (Nat.le_of_ble_eq_true rfl) ?_
  simp only [BS, tupleOf, Nat.add_zero, Nat.reduceLT, Nat.reduceEqDiff, if_true, if_false, Nat.zero_add, true_and, eq_self, Tryz.FFs654, l0, ga.A.lenq]
  exact S.gr
theorem runNode_ok {h0 : Hp} (ok : h0.t.Sized h0.n) {bp b2 : Nat} {γ : Gra} {nb : Nat} (c : NetAt h0 nb (ptrTo bp) γ) (l : h0.load b2 0 1 = some [ptrTo bp]) {v : Nat} (hv : v < γ.nodes) : Pure Tryz.abEnv 52 [.int .i64 (v : Nat), ptrTo b2] h0 (.bool true) := by
  have S := St.init (M := NoM) ok
  have c1 : (0 : Int) ≤ (v : Int) := by omega
  refine enter_ret (n := 12) (rs := [.tmp 3]) rfl Tryz.e52 rfl rfl rfl (Nat.le_of_ble_eq_true rfl) ?_
  simp only [BS, Nat.reduceLT, Nat.reduceEqDiff, if_true, if_false, List.map_cons, List.map_nil, List.append_nil, List.nil_append, List.getElem?_cons_zero, List.getElem?_cons_succ, decide_true, eq_self, Tryz.FFs652, l, c1]
  refine step_pure (netNodes_ok S.ok (c.gr S.gr)) ?_; intro h g; replace S := S.call g; clear g
  simp only [BS, tupleOf, Nat.reduceLT, Nat.reduceEqDiff, if_true, if_false, List.getElem?_cons_zero, List.getElem?_cons_succ, true_and, decide_true, eq_self, lt_nat, hv]
  exact S.gr
theorem seekRun_ok {h0 : Hp} (ok : h0.t.Sized h0.n) {γ : Gra} (hγ : Good γ) {nb bp : Nat} (hn : NetAt h0 nb (ptrTo bp) γ) {s to : Nat} (hs : s < γ.nodes) (hto : to < γ.nodes) {vAl vPi : Value} {als : List Bool} {pis : List Int} (hA : SlAt h0 1 encB vAl als) (hAl : als = [] ∨ als.length = γ.arcs.length) (hP : SlAt h0 1 (encI .i64) vPi pis) (hPl : pis = [] ∨ pis.length = γ.nodes) :
    Ret Tryz.abEnv 14 [ptrTo bp, .agg ⟨[.int .i64 (s : Nat), .int .i64 (to : Nat), vAl, vPi]⟩] h0 fun r h' => Gr h0 h' ∧ ∃ v fd, r = .tuple #[v, .int .i64 0] ∧ FdAt h' h0.n v fd ∧ ((s = to ∧ fd = ⟨0, [], []⟩) ∨ (s ≠ to ∧ Ends γ.arcs (alF als) (piF pis) to (initS (piF pis) s) fd)) := by
  have S := St.init (M := NoM) ok
  have fA := hA.fl
  have fP := hP.fl
  refine enter_ret (n := 57) (rs := [.cell 4 46, .tmp 5]) rfl Tryz.e14 rfl rfl rfl (Nat.le_of_ble_eq_true rfl) ?_
  simp only [BS, Nat.reduceLT]
  refine step_newS (box_fl (by first | exact fl_int | exact fl_slice | exact fl_ptr | exact fl_bool | exact fl_map | exact fl_func | exact fl_nili | exact fl_iface | exact fl_nilf | exact fl_str | assumption)) S ?_; clear S; intro h b2 S n_b2
  simp only [BS, Nat.reduceLT, Nat.reduceEqDiff, if_false]
  refine step_newS (box_new (by intro x e; cases e)) S ?_; clear S; intro h b3 S n_b3; simp only [vcells] at S
  simp only [BS, Tryz.FFs614]
  refine step_newS allocR_new S ?_; clear S; intro h b4 S n_b4
  simp only [BS, Nat.reduceLT, Nat.reduceEqDiff, if_true, if_false, List.map_cons, List.map_nil, List.map_toArray, eq_self, Tryz.FFs614, S.ld (b := b2) (o := 0) (by first | exact m0 | exact m1 | exact m2 | exact m3 | exact m4 | exact m5 | exact m6 | exact m7) rfl]
  refine draw_step (hoist_no rfl) (q := 0) (ps := [(22, 24), (14, 16)]) (by kernel_rfl) ?_
  simp only [BS, cls, Nat.add_zero, Nat.reduceLT, Nat.reduceEqDiff, Nat.reduceAdd, if_true, if_false, List.map_cons, List.map_nil, List.nil_append, List.cons_append, Nat.reducePow, Nat.reduceDiv, Nat.reduceMod, Nat.reduceLeDiff, Bool.and_true, Bool.and_false, Nat.zero_add, decide_true, decide_false, eq_self, Tryz.FFs614, S.ld (b := b2) (o := 0) (by first | exact m0 | exact m1 | exact m2 | exact m3 | exact m4 | exact m5 | exact m6 | exact m7) rfl, S.ld (b := b3) (o := 0) (by first | exact m0 | exact m1 | exact m2 | exact m3 | exact m4 | exact m5 | exact m6 | exact m7) rfl]
  have p1 := (S.row (b := b2) m2).lt S.ok
  have q1 := (S.row (b := b3) m1).lt S.ok
  refine dn_pure (runNode_ok S.ok (hn.gr S.gr) (S.ld (b := b2) (o := 0) m2 rfl) hs) ?_; intro h g; have u1 := leaves_gr g p1; have v1 := leaves_gr g q1; replace S := S.call g; clear g
  simp only [BS, cls, Nat.reduceLT, Nat.reduceEqDiff, Nat.reduceAdd, if_true, if_false, List.map_cons, List.map_nil, List.nil_append, List.cons_append, List.getElem?_cons_zero, List.getElem?_cons_succ, Nat.reducePow, Nat.reduceDiv, Nat.reduceMod, Nat.reduceLeDiff, Bool.and_true, Bool.and_false, Nat.zero_add, Bool.not_true, Bool.not_false, decide_true, decide_false, eq_self, Tryz.FFs614, S.ld (b := b2) (o := 0) (by first | exact m0 | exact m1 | exact m2 | exact m3 | exact m4 | exact m5 | exact m6 | exact m7) rfl, S.ld (b := b3) (o := 1) (by first | exact m0 | exact m1 | exact m2 | exact m3 | exact m4 | exact m5 | exact m6 | exact m7) rfl]
  have p2 := (S.row (b := b2) m2).lt S.ok
  have q2 := (S.row (b := b3) m1).lt S.ok
  refine dn_pure (runNode_ok S.ok (hn.gr S.gr) (S.ld (b := b2) (o := 0) m2 rfl) hto) ?_; intro h g; have u2 := leaves_gr g p2; have v2 := leaves_gr g q2; replace S := S.call g; clear g
  simp only [BS, cls, Nat.reduceLT, Nat.reduceEqDiff, Nat.reduceAdd, if_true, if_false, List.map_cons, List.map_nil, List.append_nil, List.nil_append, List.getElem?_cons_zero, List.getElem?_cons_succ, Nat.reducePow, Nat.reduceDiv, Nat.reduceMod, Nat.reduceLeDiff, Bool.and_true, Bool.and_false, Nat.zero_add, Bool.not_true, Bool.not_false, decide_true, decide_false, eq_self, Tryz.FFs614, S.ld (b := b2) (o := 0) (by first | exact m0 | exact m1 | exact m2 | exact m3 | exact m4 | exact m5 | exact m6 | exact m7) rfl, S.ld (b := b3) (o := 2) (by first | exact m0 | exact m1 | exact m2 | exact m3 | exact m4 | exact m5 | exact m6 | exact m7) rfl]
  have p3 := (S.row (b := b2) m2).lt S.ok
  have q3 := (S.row (b := b3) m1).lt S.ok
  refine dn_pure (netArcs_ok S.ok (hn.gr S.gr)) ?_; intro h g; have u3 := leaves_gr g p3; have v3 := leaves_gr g q3; replace S := S.call g; clear g
  simp only [BS, cls, Nat.reduceLT, Nat.reduceEqDiff, Nat.reduceAdd, if_true, if_false, List.map_cons, List.map_nil, List.append_nil, List.nil_append, List.getElem?_cons_zero, List.getElem?_cons_succ, Nat.reducePow, Nat.reduceDiv, Nat.reduceMod, Nat.reduceLeDiff, Bool.and_true, Bool.not_false, decide_true, decide_false, eq_self]
  have p4 := (S.row (b := b2) m2).lt S.ok
  have q4 := (S.row (b := b3) m1).lt S.ok
  refine dn_pure (fitsB_ok S.ok (hA.gr S.gr) hAl) ?_; intro h g; have u4 := leaves_gr g p4; have v4 := leaves_gr g q4; replace S := S.call g; clear g
  simp only [BS, cls, Nat.reduceLT, Nat.reduceEqDiff, Nat.reduceAdd, if_true, if_false, List.map_cons, List.map_nil, List.append_nil, List.nil_append, List.getElem?_cons_zero, List.getElem?_cons_succ, Nat.reducePow, Nat.reduceDiv, Nat.reduceMod, Nat.reduceLeDiff, Bool.and_true, Bool.and_false, Nat.zero_add, Bool.not_true, Bool.not_false, decide_true, decide_false, eq_self, Tryz.FFs614, S.ld (b := b2) (o := 0) (by first | exact m0 | exact m1 | exact m2 | exact m3 | exact m4 | exact m5 | exact m6 | exact m7) rfl, S.ld (b := b3) (o := 3) (by first | exact m0 | exact m1 | exact m2 | exact m3 | exact m4 | exact m5 | exact m6 | exact m7) rfl]
  have p5 := (S.row (b := b2) m2).lt S.ok
  have q5 := (S.row (b := b3) m1).lt S.ok
  refine dn_pure (netNodes_ok S.ok (hn.gr S.gr)) ?_; intro h g; have u5 := leaves_gr g p5; have v5 := leaves_gr g q5; replace S := S.call g; clear g
  simp only [BS, cls, Nat.reduceLT, Nat.reduceEqDiff, Nat.reduceAdd, if_true, if_false, List.map_cons, List.map_nil, List.append_nil, List.nil_append, List.getElem?_cons_zero, List.getElem?_cons_succ, Nat.reducePow, Nat.reduceDiv, Nat.reduceMod, Nat.reduceLeDiff, Bool.and_true, Bool.not_false, decide_true, decide_false, eq_self]
  have p6 := (S.row (b := b2) m2).lt S.ok
  have q6 := (S.row (b := b3) m1).lt S.ok
  refine dn_pure (fitsI_ok S.ok (hP.gr S.gr) hPl) ?_; intro h g; have u6 := leaves_gr g p6; have v6 := leaves_gr g q6; replace S := S.call g; clear g
  simp only [BS, cls, Nat.add_zero, Nat.reduceLT, Nat.reduceEqDiff, Nat.reduceAdd, if_true, if_false, List.getElem?_cons_zero, List.getElem?_cons_succ, Nat.reducePow, Nat.reduceDiv, Nat.reduceMod, Nat.reduceLeDiff, Bool.and_false, Bool.not_true, Bool.not_false, decide_false, eq_self, Tryz.FFs614]
  refine ⟨by simp only [pairs_cons, pairs_nil, entry_noted, entry_hit, entry_miss, ne_eq, not_false_eq_true, note_load, note_run, note_alloc, noted_some, ll_tmp, ll_put, setR_at, Nat.reduceLT, Nat.reduceEqDiff, reduceIte, Bool.and_true, ptr_eq, pair_br v3, pair_br v5], ?_⟩
  clear p1 p2 p3 p4 p5 p6 q1 q2 q3 q4 q5 q6 u1 u2 u3 u4 u5 u6 v1 v2 v3 v4 v5 v6
  by_cases hst : s = to
  · subst hst
    simp only [BS, Option.isSome_some, Nat.reduceLT, Nat.reduceEqDiff, if_true, if_false, List.map_nil, Nat.zero_add, true_and, decide_true, eq_self, Tryz.FFs614, S.ld (b := b3) (o := 0) (by first | exact m0 | exact m1 | exact m2 | exact m3 | exact m4 | exact m5 | exact m6 | exact m7) rfl, S.ld (b := b3) (o := 1) (by first | exact m0 | exact m1 | exact m2 | exact m3 | exact m4 | exact m5 | exact m6 | exact m7) rfl]
    refine step_u (S.store (i := 0) rfl Tryz.s46 (by intro x e; cases e) rfl rfl (Nat.le_of_ble_eq_true rfl) Nat.one_ne_zero) ?_
    clear S; rintro h3 ⟨S, mo⟩
    simp only [List.set_cons_zero, List.set_cons_succ, vcells, lay, List.take, List.drop, List.nil_append, List.cons_append, List.append_nil, List.length_cons, List.length_nil, Nat.reduceAdd, Nat.add_zero] at S
    simp only [BS, tupleOf]
    refine (res_cell (by decide) (by simp only [setR_at, ptr_eq, Nat.reduceEqDiff, reduceIte]; exact loadV_aggr Tryz.a46 Tryz.s46 (S.lds (b := b4) (o := 0) (n := 3) m0 (Nat.le_of_ble_eq_true rfl)))).2 ?_
    refine (res_tmp (by decide)).2 (res_nil.2 ?_)
    exact ⟨S.gr, _, ⟨0, [], []⟩, rfl, ⟨_, _, rfl, .inl ⟨rfl, rfl⟩, .inl ⟨rfl, rfl⟩, fun c hc => hc.elim, fun c hc => hc.elim⟩, .inl rfl⟩
  · have hst' : ¬ ((s : Int) = (to : Int)) := by omega
    simp only [BS, Nat.reduceLT, Nat.reduceEqDiff, if_true, if_false, Nat.zero_add, decide_false, eq_self, Tryz.FFs614, hst', S.ld (b := b3) (o := 0) (by first | exact m0 | exact m1 | exact m2 | exact m3 | exact m4 | exact m5 | exact m6 | exact m7) rfl, S.ld (b := b3) (o := 1) (by first | exact m0 | exact m1 | exact m2 | exact m3 | exact m4 | exact m5 | exact m6 | exact m7) rfl]
    refine draw_step (hoist_no rfl) (q := 0) (ps := [(2, 6), (2, 4)]) (by kernel_rfl) ?_
    simp only [BS, cls, Nat.reduceLT, Nat.reduceEqDiff, Nat.reduceAdd, if_true, if_false, List.map_cons, List.map_nil, List.append_nil, List.nil_append, Nat.reducePow, Nat.reduceDiv, Nat.reduceMod, Nat.reduceLeDiff, Bool.and_true, Bool.and_false, Nat.zero_add, decide_true, decide_false, eq_self, Tryz.FFs614, List.drop_zero, List.take_succ_cons, List.take_zero, S.ld (b := b2) (o := 0) (by first | exact m0 | exact m1 | exact m2 | exact m3 | exact m4 | exact m5 | exact m6 | exact m7) rfl, S.lds (b := b3) (o := 0) (n := 4) (by first | exact m0 | exact m1 | exact m2 | exact m3 | exact m4 | exact m5 | exact m6 | exact m7) (Nat.le_of_ble_eq_true rfl)]
    have hnS := hn.gr S.gr
    have kS := S.fr.n
    have p3 := (S.row (b := b3) m1).lt S.ok
    refine dn_ret (sstart_ok S.ok hγ hnS fA fP) ?_
    rintro r h5 ⟨br, ba, hq, B, rfl, g1, g2, l2, l3, R, hB⟩
    have u1 := leaves_gr (g1.trans g2) p3
    have Aq := hA.gr (S.gr.trans g1)
    have Pq := hP.gr (S.gr.trans g1)
    have Sq := S.call g1
    have b4q := (Sq.row (b := b4) m0).lt Sq.ok
    replace S := S.call (g1.trans g2)
    simp only [BS, cls, Nat.add_zero, Nat.reduceLT, Nat.reduceEqDiff, Nat.reduceAdd, if_true, if_false, List.map_cons, List.map_nil, List.append_nil, List.nil_append, Nat.reducePow, Nat.reduceDiv, Nat.reduceMod, Nat.reduceLeDiff, Bool.and_true, Bool.and_false, Nat.zero_add, decide_true, decide_false, eq_self, Tryz.FFs614, S.ld (b := b3) (o := 0) (by first | exact m0 | exact m1 | exact m2 | exact m3 | exact m4 | exact m5 | exact m6 | exact m7) rfl, S.ld (b := b3) (o := 1) (by first | exact m0 | exact m1 | exact m2 | exact m3 | exact m4 | exact m5 | exact m6 | exact m7) rfl]
    have kq := g1.n
    have hnq := hnS.gr g1
    refine dn_ret (srun_ok g1.ok g2 hγ hnq R hB (al_ok l2 Aq hAl) (pi_ok l3 Pq hPl) (fun v _ => piF_lo pis v) hs hto) ?_
    rintro rv h6 ⟨g6, fd, he, vA, vE, rfl, G1, G2, d1, d2⟩
    replace S := Sq.call g6
    have f1 : Fl vA := G1.fl
    have f2 : Fl vE := G2.fl
    simp only [BS, cls, Nat.reduceLT, Nat.reduceEqDiff, Nat.reduceAdd, if_true, if_false, Nat.reducePow, Nat.reduceDiv, Nat.reduceMod, Nat.reduceLeDiff, Bool.and_false, decide_false, eq_self]
    refine dn_u (S.store (i := 0) rfl Tryz.s46 (by intro x e; cases e) rfl (by simp only [vcells, List.all_cons, List.all_nil, f1.2.1, f2.2.1, Bool.and_true]; rfl) (Nat.le_of_ble_eq_true rfl) Nat.one_ne_zero) ?_
    clear S; rintro h7 ⟨S, mo⟩
    simp only [List.set_cons_zero, List.set_cons_succ, vcells, lay, List.take, List.drop, List.nil_append, List.cons_append, List.append_nil, List.length_cons, List.length_nil, Nat.reduceAdd, Nat.add_zero] at S
    simp only [BS, cls, tupleOf, Nat.reduceEqDiff, Nat.reduceAdd, Nat.reducePow, Nat.reduceDiv, Nat.reduceMod, Nat.reduceLeDiff, Bool.and_false, decide_false]
    refine ⟨by simp only [pairs_cons, pairs_nil, entry_noted, entry_hit, entry_miss, ne_eq, not_false_eq_true, note_load, note_run, note_alloc, noted_some, ll_tmp, ll_put, setR_at, Nat.reduceLT, Nat.reduceEqDiff, reduceIte, Bool.and_true, ptr_eq, pair_rb u1], ?_⟩
    refine (res_cell (by decide) (by simp only [setR_at, ptr_eq, Nat.reduceEqDiff, reduceIte]; exact loadV_aggr Tryz.a46 Tryz.s46 (S.lds (b := b4) (o := 0) (n := 3) m0 (Nat.le_of_ble_eq_true rfl)))).2 ?_
    refine (res_tmp (by decide)).2 (res_nil.2 ?_)
    have keep : ∀ {p : GL}, GHas h6 p → (∀ c, blkOf p.1 c → hq.n ≤ c) → GHas h7 p := fun {p} G hc => G.of_get fun c hk => mo.get c (G.lt g6.ok hk) fun e => by
      have := hc c (by
        rcases G with ⟨e1, _⟩ | ⟨b', n', e1, _⟩
        · obtain ⟨v, k, vs⟩ := p
          simp only [] at e1
          subst e1
          cases hk
        · obtain ⟨v, k, vs⟩ := p
          simp only [] at e1
          subst e1
          cases hk
          rfl)
      omega
    exact ⟨S.gr, _, fd, rfl, ⟨vA, vE, rfl, keep G1 (fun c hc => (d1 c hc).1), keep G2 d2, fun c hc => ⟨Nat.le_trans kS (Nat.le_trans kq (d1 c hc).1), (d1 c hc).2⟩, fun c hc => Nat.le_trans kS (Nat.le_trans kq (d2 c hc))⟩, .inr ⟨hst, he⟩⟩
end Go.Ab

end
section
namespace Go.Ab
open Go.Proofs
set_option maxRecDepth 10000
def turnK (A : List Arc) (k : Nat) : List Arc := (A.take k).map turn ++ A.drop k
theorem turnK_len (A : List Arc) (k : Nat) : (turnK A k).length = A.length := by simp [turnK]; omega
theorem turnK_step {A : List Arc} {k : Nat} (hk : k < A.length) : ((turnK A k).set k ⟨A[k].t, A[k].t, A[k].w⟩).set k ⟨A[k].t, A[k].s, A[k].w⟩ = turnK A (k + 1) := by
  have hl : ((A.take k).map turn).length = k := by simp; omega
  rw [List.set_set]
  unfold turnK
  rw [List.set_append_right _ _ (by omega), hl, Nat.sub_self, List.drop_eq_getElem_cons hk, List.set_cons_zero, List.take_succ_eq_append_getElem hk, List.map_append, List.append_assoc]
  rfl
theorem turnK_at {A : List Arc} {k : Nat} (hk : k < A.length) : (turnK A k)[k]? = some A[k] := by
  have hl : ((A.take k).map turn).length = k := by simp; omega
  unfold turnK
  rw [List.getElem?_append_right (by omega), hl, Nat.sub_self, List.drop_eq_getElem_cons hk]; rfl
def turnG (γ : Gra) : Gra := { γ with arcs := γ.arcs.map turn }
theorem turnK_all (A : List Arc) : turnK A A.length = A.map turn := by simp [turnK]
end Go.Ab

end
section
namespace Go.Ab
open Go.Proofs
set_option maxRecDepth 10000
open Tryz in
def Tryz.FFs758 := aj a1 <| aj s1 <| aj z1 <| aj n1 <| aj u2 <| aj a2 <| aj s2 <| aj z2 <| aj i2 <| aj u3 <| aj a3 <| aj s3 <| aj z3 <| aj i3 <| aj u4 <| aj a4 <| aj s4 <| aj z4 <| aj n4 <| aj u25 <| aj a25 <| aj s25 <| aj z25 <| aj q25 <| aj n25 <| aj u29 <| aj a29 <| aj s29 <| aj z29 <| aj q29 <| aj n29 <| aj a31 <| aj s31 <| aj z31 <| aj i31 <| aj n31 <| aj p31 <| aj ff31 <| aj d31 <| aj u33 <| aj a33 <| aj s33 <| aj z33 <| aj q33 <| aj i33 <| aj n33 <| aj u43 <| aj a43 <| aj s43 <| aj z43 <| aj q43 <| aj n43 <| aj a56 <| aj s56 <| aj z56 <| aj i56 <| aj n56 <| aj p56 <| aj ff56 <| aj d56 <| aj u163 <| aj a163 <| aj s163 <| aj z163 <| aj q163 <| aj n163 <| aj a165 <| aj s165 <| aj z165 <| aj i165 <| aj n165 <| aj p165 <| aj ff165 <| d165
open Tryz in
def Tryz.FFs717 := aj a1 <| aj s1 <| aj z1 <| aj n1 <| aj u2 <| aj a2 <| aj s2 <| aj z2 <| aj i2 <| aj u3 <| aj a3 <| aj s3 <| aj z3 <| aj i3 <| aj u4 <| aj a4 <| aj s4 <| aj z4 <| aj n4 <| aj u5 <| aj a5 <| aj s5 <| aj z5 <| aj i5 <| aj u6 <| aj a6 <| aj s6 <| aj z6 <| aj i6 <| aj a7 <| aj s7 <| aj z7 <| aj i7 <| aj n7 <| aj p7 <| aj ff7 <| aj d7 <| aj a8 <| aj s8 <| aj z8 <| aj i8 <| aj n8 <| aj p8 <| aj ff8 <| aj d8 <| aj u9 <| aj a9 <| aj s9 <| aj z9 <| aj n9 <| aj u25 <| aj a25 <| aj s25 <| aj z25 <| aj q25 <| aj n25 <| aj u29 <| aj a29 <| aj s29 <| aj z29 <| aj q29 <| aj n29 <| aj a31 <| aj s31 <| aj z31 <| aj i31 <| aj n31 <| aj p31 <| aj ff31 <| aj d31 <| aj u33 <| aj a33 <| aj s33 <| aj z33 <| aj q33 <| aj i33 <| aj n33 <| aj a56 <| aj s56 <| aj z56 <| aj i56 <| aj n56 <| aj p56 <| aj ff56 <| aj d56 <| aj u163 <| aj a163 <| aj s163 <| aj z163 <| aj q163 <| aj n163 <| aj a165 <| aj s165 <| aj z165 <| aj i165 <| aj n165 <| aj p165 <| aj ff165 <| d165
open Tryz in
def Tryz.FFs716 := aj a1 <| aj s1 <| aj z1 <| aj n1 <| aj u2 <| aj a2 <| aj s2 <| aj z2 <| aj i2 <| aj u3 <| aj a3 <| aj s3 <| aj z3 <| aj i3 <| aj u4 <| aj a4 <| aj s4 <| aj z4 <| aj n4 <| aj u25 <| aj a25 <| aj s25 <| aj z25 <| aj q25 <| aj n25 <| aj a31 <| aj s31 <| aj z31 <| aj i31 <| aj n31 <| aj p31 <| aj ff31 <| aj d31 <| aj u33 <| aj a33 <| aj s33 <| aj z33 <| aj q33 <| aj i33 <| aj n33 <| aj u38 <| aj a38 <| aj s38 <| aj z38 <| aj q38 <| aj n38 <| aj a40 <| aj s40 <| aj z40 <| aj i40 <| aj n40 <| aj p40 <| aj ff40 <| aj d40 <| aj u43 <| aj a43 <| aj s43 <| aj z43 <| aj q43 <| aj n43 <| aj u44 <| aj a44 <| aj s44 <| aj z44 <| aj q44 <| aj n44 <| aj a46 <| aj s46 <| aj z46 <| aj i46 <| aj n46 <| aj p46 <| aj ff46 <| aj d46 <| aj u47 <| aj a47 <| aj s47 <| aj z47 <| aj i47 <| aj a51 <| aj s51 <| aj z51 <| aj i51 <| aj n51 <| aj p51 <| aj ff51 <| aj d51 <| aj u163 <| aj a163 <| aj s163 <| aj z163 <| aj q163 <| aj n163 <| aj a165 <| aj s165 <| aj z165 <| aj i165 <| aj n165 <| aj p165 <| aj ff165 <| d165
theorem netRaw_ok {h0 : Hp} (ok : h0.t.Sized h0.n) {γ : Gra} (hγ : Good γ) {nb bp : Nat} (hn : NetAt h0 nb (ptrTo bp) γ) :
    Ret Tryz.abEnv 58 [ptrTo bp] h0 fun r h' => Gr h0 h' ∧ ∃ vx vy va, r = rawV γ vx vy va ∧ GraphAt h' vx vy va γ ∧ (∀ c, blkOf vx c ∨ blkOf vy c ∨ blkOf va c → h0.n ≤ c) ∧ WrK h' 3 encA va γ.arcs ∧ ∀ c, blkOf va c → ¬ blkOf vx c ∧ ¬ blkOf vy c := by
  have S := St.init (M := NoM) ok
  obtain ⟨b, vx, vy, va, vo, vi, e, r, ga, _⟩ := hn.ex
  cases e
  have l0 := r.load (o := 0) (n := 4) (Nat.le_of_ble_eq_true rfl)
  refine enter_ret (n := 11) (rs := [.cell 2 31]) rfl Tryz.e58 rfl rfl rfl (Nat.le_of_ble_eq_true rfl) ?_
  simp only [BS, Tryz.FFs758]
  refine step_newS allocR_new S ?_; clear S; intro h b2 S n_b2
  simp only [BS, Nat.add_zero, Nat.reduceLT, Nat.reduceEqDiff, if_true, if_false, List.map_cons, List.map_nil, List.append_nil, List.nil_append, eq_self, Tryz.FFs758, S.old l0 (fun h => h), List.drop_zero, List.take_succ_cons, List.take_zero]
  have k0 := S.fr.n
  have ow : Ret Tryz.abEnv 49 [rawV γ vx vy va] h _ := own_ok S.ok hγ (ga.gr S.gr)
  unfold rawV at ow
  refine step_ret ow ?_
  rintro v h ⟨g, vx', vy', va', rfl, ga', hz, w, d⟩
  have fx := ga'.X.fl
  have fy := ga'.Y.fl
  have fa := ga'.A.fl
  have lt2 := (S.row (b := b2) m0).lt S.ok
  replace S := S.call g
  simp only [BS, Nat.reduceLT, Nat.reduceEqDiff, if_true, if_false, eq_self]
  refine step_u (S.store (i := 0) rfl Tryz.s31 (by intro x e; cases e) rfl (by simp only [vcells, List.all_cons, List.all_nil, fx.2.1, fy.2.1, fa.2.1, Bool.and_true]; rfl) (Nat.le_of_ble_eq_true rfl) Nat.one_ne_zero) ?_
  clear S; rintro h' ⟨S, mo⟩
  simp only [List.set_cons_zero, List.set_cons_succ, vcells, lay, List.take, List.drop, List.nil_append, List.cons_append, List.append_nil, List.length_cons, List.length_nil, Nat.reduceAdd, Nat.add_zero] at S
  simp only [BS, tupleOf]
  refine (res_cell (by decide) (by simp only [setR_at, ptr_eq, Nat.reduceEqDiff, reduceIte]; exact loadV_aggr Tryz.a31 Tryz.s31 (S.lds (b := b2) (o := 0) (n := 4) m0 (Nat.le_of_ble_eq_true rfl)))).2 (res_nil.2 ?_)
  exact ⟨S.gr, vx', vy', va', rfl, ga'.mo mo (fun c hc e => by have := hz c hc; omega), fun c hc => Nat.le_trans k0 (hz c hc), w.mo mo (fun c hc e => by have := hz c (.inr (.inr hc)); omega), d⟩
theorem flatA_lay {A : List Arc} {k : Nat} (hk : k < A.length) (a : Arc) : lay (A.flatMap encA) (k * 3) (encA a) = (A.set k a).flatMap encA := by
  induction A generalizing k with
  | nil => simp at hk
  | cons b A ih =>
    cases k with
    | zero => rfl
    | succ k =>
      have := ih (k := k) (by simpa using hk)
      show lay (encA b ++ A.flatMap encA) ((k + 1) * 3) (encA a) = encA b ++ (A.set k a).flatMap encA
      rw [← this, show (k + 1) * 3 = k * 3 + 1 + 1 + 1 by omega]
      unfold lay
      rw [show k * 3 + 1 + 1 + 1 + (encA a).length = (k * 3 + (encA a).length) + 1 + 1 + 1 by omega]
      rfl
theorem good_turn {γ : Gra} (hγ : Good γ) : Good (turnG γ) :=
  ⟨hγ.n1, hγ.n2, hγ.lX, hγ.lY, hγ.cX, hγ.cY, by simpa [turnG] using hγ.many, fun a ha => by
    obtain ⟨b, hb, rfl⟩ := List.mem_map.1 ha
    exact ⟨(hγ.arcs b hb).2.1, (hγ.arcs b hb).1, (hγ.arcs b hb).2.2⟩⟩
theorem netTurned_ok {h0 : Hp} (ok : h0.t.Sized h0.n) {γ : Gra} (hγ : Good γ) {nb bp : Nat} (hn : NetAt h0 nb (ptrTo bp) γ) :
    Ret Tryz.abEnv 17 [ptrTo bp] h0 fun r h' => Gr h0 h' ∧ NetAt h' h0.n r (turnG γ) := by
  have S := St.init (M := NoM) ok
  have many := hγ.many
  refine enter_ret (n := 32) (rs := [.tmp 2]) rfl Tryz.e17 rfl rfl rfl (Nat.le_of_ble_eq_true rfl) ?_
  simp only [BS, Nat.reduceLT, Nat.reduceEqDiff, if_true, if_false, List.map_cons, List.map_nil, List.append_nil, List.nil_append, eq_self, Tryz.FFs717]
  refine step_ret (netRaw_ok S.ok hγ hn) ?_
  rintro v h ⟨g, vx, vy, va, rfl, ga, hz, w, d⟩
  have fx := ga.X.fl
  have fy := ga.Y.fl
  have fa := ga.A.fl
  have ok1 := g.ok
  replace S := S.call g
  have S1 := S
  replace S := S.base
  simp only [BS, Tryz.FFs717, rawV]
  refine step_newS allocR_new S ?_; clear S; intro h b3 S n_b3
  simp only [BS, Nat.reduceLT, Nat.reduceEqDiff, if_true, if_false, eq_self]
  refine step_u (S.store (i := 0) rfl Tryz.s31 (by intro x e; cases e) rfl (by simp only [vcells, List.all_cons, List.all_nil, fx.2.1, fy.2.1, fa.2.1, Bool.and_true]; rfl) (Nat.le_of_ble_eq_true rfl) Nat.one_ne_zero) ?_
  clear S; rintro h' ⟨S, mo⟩
  simp only [List.set_cons_zero, List.set_cons_succ, vcells, lay, List.take, List.drop, List.nil_append, List.cons_append, List.append_nil, List.length_cons, List.length_nil, Nat.reduceAdd, Nat.add_zero] at S
  have lt3 : ∀ c, blkOf vx c ∨ blkOf vy c ∨ blkOf va c → c ≠ b3 := fun c hc e => by
    have : c < _ := hc.elim (fun h => ga.X.lt ok1 h) (fun h => h.elim (fun h => ga.Y.lt ok1 h) (fun h => ga.A.lt ok1 h))
    omega
  have nk : ∀ c, c ∈ keys ([] : List (Nat × Ob)) [] → False := fun c hc => by simp [keys] at hc
  have ga2 := ga.mo S.fr (fun c _ h => nk c h)
  have w2 := w.mo S.fr (fun c _ h => nk c h)
  replace S := S1.rebase S
  clear S1 g mo
  simp only [BS, Nat.reduceLT, Nat.reduceEqDiff, if_true, if_false, Nat.zero_add, eq_self, Tryz.FFs717, ga2.A.lenq, S.ld (b := b3) (o := 3) (by first | exact m0 | exact m1 | exact m2 | exact m3 | exact m4 | exact m5 | exact m6 | exact m7) rfl]
  have fin : ∀ {h4 : Hp} {L : List (Nat × Ob)} {va' : Value}, St NoM h0 h4 L [] → GraphAt h4 vx vy va' (turnG γ) → (∀ c, blkOf va' c → h0.n ≤ c) → Ret Tryz.abEnv 48 [.agg ⟨[.int .i64 (γ.nodes : Nat), vx, vy, va']⟩] h4 fun v h' => Gr h4 h' ∧ NetAt h' h0.n v (turnG γ) := fun {h4 L va'} T G hva =>
    of_ok T.ok (good_turn hγ) G T.fr.n (fun c hc => by rcases hc with h | h | h; exact hz c (.inl h); exact hz c (.inr (.inl h)); exact hva c h)
  by_cases hne : γ.arcs = []
  · have h00 : ¬ ((0 : Int) < (γ.arcs.length : Int)) := by rw [hne]; simp
    rw [run_unroll]
    simp only [BS, Nat.reduceLT, Nat.reduceEqDiff, if_true, if_false, List.map_cons, List.map_nil, List.append_nil, List.nil_append, decide_false, eq_self, Tryz.FFs717, h00, List.drop_zero, List.take_succ_cons, List.take_zero, S.lds (b := b3) (o := 0) (n := 4) (by first | exact m0 | exact m1 | exact m2 | exact m3 | exact m4 | exact m5 | exact m6 | exact m7) (Nat.le_of_ble_eq_true rfl)]
    refine step_ret (fin S ⟨ga2.X, ga2.Y, by have := ga2.A; rw [hne] at this; simpa [turnG, hne] using this⟩ (fun c hc => hz c (.inr (.inr hc)))) ?_
    rintro r h ⟨g, hN⟩
    replace S := S.call g
    simp only [BS, tupleOf, Nat.reduceLT, Nat.reduceEqDiff, if_true, if_false, eq_self]
    exact ⟨S.gr, hN⟩
  · obtain ⟨ba, e, row⟩ := w2 hne
    subst e
    have nba := hz ba (.inr (.inr rfl))
    have ne3 := lt3 ba (.inr (.inr rfl))
    replace S := S.push (b := ba) (o := .row (γ.arcs.flatMap encA) 1) (.inl nba) row (by intro hc; simp [keys] at hc; omega)
    have gX := ga2.X
    have gY := ga2.Y
    have gS := S.gr
    refine loop_ind (fun (k : Nat) ρ h => k ≤ γ.arcs.length ∧ St NoM h0 h [(ba, Ob.row ((turnK γ.arcs k).flatMap encA) 1), (b3, .row [.int .i64 γ.nodes, vx, vy, .slice (some ⟨ba, 0, some 3⟩) γ.arcs.length γ.arcs.length] 1)] [] ∧ SlAt h 1 (encI .i64) vx γ.X ∧ SlAt h 1 (encI .i64) vy γ.Y ∧ ρ 3 = ptrTo b3 ∧ ρ 11 = .slice (some ⟨ba, 0, some 3⟩) γ.arcs.length γ.arcs.length ∧ ρ 12 = .int .i64 (γ.arcs.length : Nat) ∧ ρ 13 = .int .i64 k) (fun k => γ.arcs.length - k) ?_ 0 _ _ ?_
    · clear S gX gY
      intro k ih ρ h2 ⟨hk, S, gX, gY, r3, r11, r12, r13⟩
      have wk : wrapI .i64 ((k : Int) + 1) = ((k + 1 : Nat) : Int) := by rw [wrap64] <;> omega
      have len3 : (List.flatMap encA (turnK γ.arcs k)).length = γ.arcs.length * 3 := by rw [flatMap_len encA_len, turnK_len]
      by_cases hkt : k < γ.arcs.length
      · have hk1 : k < (turnK γ.arcs k).length := by rw [turnK_len]; exact hkt
        have eg : (turnK γ.arcs k)[k] = γ.arcs[k] := Option.some.inj ((List.getElem?_eq_getElem hk1).symm.trans (turnK_at hkt))
        have q : h2.load ba (k * 3) 3 = some (encA γ.arcs[k]) := by rw [(S.row (b := ba) m0).load (o := k * 3) (n := 3) (by rw [len3]; omega), flatMap_at encA_len _ hk1, eg]
        have S1 := S
        replace S := S.base
        simp only [BS, Nat.reduceLT, Nat.reduceEqDiff, if_true, if_false, Nat.zero_add, decide_true, eq_self, Tryz.FFs717, r11, r12, r13, lt_nat, hkt, q, encA]
        refine step_newS allocR_new S ?_; clear S; intro h b5 S n_b5
        simp only [BS, Nat.reduceLT, Nat.reduceEqDiff, if_true, if_false, eq_self]
        first | refine step_u (S.store (i := 0) rfl ?_ ?_ rfl rfl ?_ Nat.one_ne_zero) ?_ | refine step_u (S.store (i := 1) rfl ?_ ?_ rfl rfl ?_ Nat.one_ne_zero) ?_ | refine step_u (S.store (i := 2) rfl ?_ ?_ rfl rfl ?_ Nat.one_ne_zero) ?_ | refine step_u (S.store (i := 3) rfl ?_ ?_ rfl rfl ?_ Nat.one_ne_zero) ?_ | refine step_u (S.store (i := 4) rfl ?_ ?_ rfl rfl ?_ Nat.one_ne_zero) ?_ | refine step_u (S.store (i := 5) rfl ?_ ?_ rfl rfl ?_ Nat.one_ne_zero) ?_ | refine step_u (S.store (i := 6) rfl ?_ ?_ rfl rfl ?_ Nat.one_ne_zero) ?_ | refine step_u (S.store (i := 7) rfl ?_ ?_ rfl rfl ?_ Nat.one_ne_zero) ?_
        · exact (by first | exact Tryz.s7 | exact Tryz.s8 | exact Tryz.s31 | exact Tryz.s56 | exact Tryz.s165)
        · exact (by intro x e; cases e)
        · exact Nat.le_of_ble_eq_true rfl
        clear S; rintro h ⟨S, mo⟩; clear mo; simp only [List.set_cons_zero, List.set_cons_succ, vcells, lay, List.take, List.drop, List.nil_append, List.cons_append, List.append_nil, List.length_cons, List.length_nil, Nat.reduceAdd, Nat.add_zero] at S
        simp only [BS, Option.isSome_some, Nat.add_zero, Nat.reduceLT, Nat.reduceEqDiff, Nat.reduceAdd, if_true, if_false, List.map_cons, List.map_nil, List.length_cons, List.length_nil, List.set_cons_zero, List.set_cons_succ, List.getElem?_cons_zero, List.getElem?_cons_succ, Nat.zero_add, eq_self, Tryz.FFs717, r3, hkt, S.ld (b := b3) (o := 3) (by first | exact m0 | exact m1 | exact m2 | exact m3 | exact m4 | exact m5 | exact m6 | exact m7) rfl, S.ld (b := b5) (o := 0) (by first | exact m0 | exact m1 | exact m2 | exact m3 | exact m4 | exact m5 | exact m6 | exact m7) rfl, S.ld (b := b5) (o := 1) (by first | exact m0 | exact m1 | exact m2 | exact m3 | exact m4 | exact m5 | exact m6 | exact m7) rfl, S.ld (b := b5) (o := 2) (by first | exact m0 | exact m1 | exact m2 | exact m3 | exact m4 | exact m5 | exact m6 | exact m7) rfl]
        refine step_u (S.store (i := 1) (off := k * 3) rfl Tryz.s56 (by intro x e; cases e) rfl rfl (by rw [len3]; omega) Nat.one_ne_zero) ?_
        clear S q; rintro h3 ⟨S, _⟩
        simp only [List.set_cons_zero, List.set_cons_succ, vcells] at S
        have el : lay ((turnK γ.arcs k).flatMap encA) (k * 3) [.int .i64 (γ.arcs[k].t : Nat), .int .i64 (γ.arcs[k].s : Nat), .int .i64 (γ.arcs[k].w : Nat)] = (turnK γ.arcs (k + 1)).flatMap encA := by
          rw [show [Value.int .i64 (γ.arcs[k].t : Nat), .int .i64 (γ.arcs[k].s : Nat), .int .i64 (γ.arcs[k].w : Nat)] = encA ⟨γ.arcs[k].t, γ.arcs[k].s, γ.arcs[k].w⟩ from rfl, flatA_lay hk1, ← turnK_step hkt, List.set_set]
        rw [el] at S
        have fr := S.fr
        simp only [BS, Nat.reduceLT, Nat.reduceEqDiff, if_true, if_false, eq_self, r13, wk]
        exact ih (k + 1) _ _ (by omega) ⟨by omega, S1.rebase S.drop1, gX.mo fr (fun c hc hm => by simp [keys] at hm; rcases hm with rfl | rfl; exact (d _ rfl).1 hc; exact lt3 _ (.inl hc) rfl), gY.mo fr (fun c hc hm => by simp [keys] at hm; rcases hm with rfl | rfl; exact (d _ rfl).2 hc; exact lt3 _ (.inr (.inl hc)) rfl), by simp [setR, r3, ptr_eq], by simp [setR, r11], by simp [setR, r12], by simp [setR]⟩
      · have hkk : k = γ.arcs.length := by omega
        subst hkk
        rw [turnK_all] at S
        simp only [BS, Nat.reduceLT, Nat.reduceEqDiff, if_true, if_false, List.map_cons, List.map_nil, List.append_nil, List.nil_append, decide_false, eq_self, Tryz.FFs717, r3, r12, r13, lt_nat, hkt, List.drop_zero, List.take_succ_cons, List.take_zero, S.lds (b := b3) (o := 0) (n := 4) (by first | exact m0 | exact m1 | exact m2 | exact m3 | exact m4 | exact m5 | exact m6 | exact m7) (Nat.le_of_ble_eq_true rfl)]
        have row := S.row (b := ba) m0
        refine step_ret (fin S ⟨gX, gY, ?_⟩ (fun c hc => by have hc : ba = c := hc; subst hc; exact nba)) ?_
        · refine .inr ⟨ba, 0, some 3, γ.arcs.length, by simp [turnG], by simp [turnG], ?_⟩
          rw [row.load (by rw [flatMap_len encA_len]; simp [turnG])]
          have e : (turnG γ).arcs.length * 3 = (List.flatMap encA (List.map turn γ.arcs)).length := by rw [flatMap_len encA_len]; rfl
          rw [e, List.drop_zero, List.take_length]; rfl
        rintro r h ⟨g, hN⟩
        replace S := S.call g
        simp only [BS, tupleOf, Nat.reduceLT, Nat.reduceEqDiff, if_true, if_false, eq_self]
        exact ⟨S.gr, hN⟩
    · exact ⟨Nat.zero_le _, S, gX, gY, by simp [setR, ptr_eq], by simp [setR], by simp [setR], by simp [setR]⟩
theorem dist13_ok {h0 : Hp} (ok : h0.t.Sized h0.n) {γ : Gra} (hγ : Good γ) {nb : Nat} {pn : Value} (hn : NetAt h0 nb pn γ) {s to : Nat} (hs : s < γ.nodes) (hto : to < γ.nodes) :
    Ret Tryz.abEnv 16 [pn, .int .i64 (s : Nat), .int .i64 (to : Nat)] h0 fun r h' => Gr h0 h' ∧ ∃ x, r = .int .i64 (x : Nat) ∧ IsD γ.arcs s to x := by
  have S := St.init (M := NoM) ok
  obtain ⟨bp, rfl⟩ : ∃ b, pn = ptrTo b := by obtain ⟨b, _, _, _, _, _, e, _⟩ := hn.ex; exact ⟨b, e⟩
  refine enter_ret (n := 21) (rs := [.tmp 6]) rfl Tryz.e16 rfl rfl rfl (Nat.le_of_ble_eq_true rfl) ?_
  simp only [BS, Option.isSome_some, Nat.reduceLT, Nat.reduceEqDiff, Nat.reduceAdd, if_true, if_false, List.map_cons, List.map_nil, List.append_nil, List.nil_append, List.length_cons, List.length_nil, List.set_cons_zero, List.set_cons_succ, List.getElem?_cons_zero, List.getElem?_cons_succ, Nat.zero_add, eq_self, Tryz.FFs716]
  refine step_ret (seekRun_ok S.ok hγ hn hs hto (als := []) (pis := []) (.inl ⟨rfl, rfl⟩) (.inl rfl) (.inl ⟨rfl, rfl⟩) (.inl rfl)) ?_
  rintro r h ⟨g, v, fd, rfl, ⟨vA, vE, rfl, G1, G2, d1, d2⟩, he⟩
  have f1 : Fl vA := G1.fl
  have f2 : Fl vE := G2.fl
  replace S := S.call g
  simp only [BS, Nat.reduceLT, Nat.reduceEqDiff, if_true, if_false, eq_self, Tryz.FFs716]
  refine step_newS allocR_new S ?_; clear S; intro h b7 S n_b7
  simp only [BS, Nat.reduceLT, Nat.reduceEqDiff, if_true, if_false, eq_self]
  refine step_u (S.store (i := 0) rfl Tryz.s46 (by intro x e; cases e) rfl (by simp only [vcells, List.all_cons, List.all_nil, f1.2.1, f2.2.1, Bool.and_true]; rfl) (Nat.le_of_ble_eq_true rfl) Nat.one_ne_zero) ?_
  clear S; rintro h' ⟨S, mo⟩
  simp only [List.set_cons_zero, List.set_cons_succ, vcells, lay, List.take, List.drop, List.nil_append, List.cons_append, List.append_nil, List.length_cons, List.length_nil, Nat.reduceAdd, Nat.add_zero] at S
  simp only [BS, tupleOf, Nat.add_zero, Nat.reduceLT, Nat.reduceEqDiff, if_true, if_false, Bool.not_true, decide_true, eq_self, Tryz.FFs716, S.ld (b := b7) (o := 0) (by first | exact m0 | exact m1 | exact m2 | exact m3 | exact m4 | exact m5 | exact m6 | exact m7) rfl]
  refine ⟨S.gr, fd.dist, rfl, ?_⟩
  rcases he with ⟨rfl, rfl⟩ | ⟨hne, he⟩
  · have := FAR_eq
    exact .inl ⟨by show 0 < FAR; omega, .nil, fun w _ => Nat.zero_le w⟩
  · have e1 : alF [] = fun _ => true := rfl
    have e2 : piF [] = fun _ => 0 := rfl
    rw [e1, e2] at he
    have fr := FAR_eq
    have hF : Feas γ.arcs (fun _ => true) (fun _ => 0) := fun i _ _ => by show (0 : Int) ≤ _ + 0; omega
    refine IsD.congr (fun a => hArcs_all) (ends_isD (fun a ha => ⟨(hγ.arcs a ha).2.1, (hγ.arcs a ha).2.2⟩) hγ.n2 hF he (sv_init hs) (fe_init (by show (0 : Int) < FAR; omega)) ?_)
    unfold initS reachS
    split <;> exact fun h => by cases h
end Go.Ab

end
section
namespace Go.Ab
def SlW (h : Hp) (kd : IntKind) (v : Value) (xs : List Int) : Prop := (v = .slice none 0 0 ∧ xs = []) ∨ ∃ b o c, v = .slice (some ⟨b, o, none⟩) xs.length c ∧ xs.length ≤ c ∧ h.load b o (xs.length * 1) = some (xs.flatMap (encI kd))
theorem SlW.sl {h : Hp} {kd : IntKind} {v : Value} {xs : List Int} (s : SlW h kd v xs) : SlAt h 1 (encI kd) v xs := s.imp (fun h => h) (fun ⟨b, o, c, h1, h2, h3⟩ => ⟨b, o, none, c, h1, h2, h3⟩)
theorem SlW.low {E : Env} {h : Hp} {kd kd' : IntKind} {t e : TypeId} {v : Value} {xs : List Int} (hu : E.und t = some (.slice e)) (hs : E.sz e = some 1) (s : SlW h kd v xs) {n : Nat} (hn : n ≤ xs.length) :
    ∃ v', sliceP E t v none (some (.int kd' (n : Int))) none = some v' ∧ SlAt h 1 (encI kd) v' (xs.take n) ∧ ∀ c, blkOf v' c → blkOf v c := by
  have nat : ∀ n : Nat, natOf (n : Int) = some n := fun n => rfl
  rcases s with ⟨rfl, rfl⟩ | ⟨b, o, c, rfl, h2, h3⟩
  · have : n = 0 := by simpa using hn
    subst this
    refine ⟨.slice none 0 0, ?_, .inl ⟨rfl, rfl⟩, fun c hc => hc⟩
    simp only [sliceP, hu, boundsP, boundP, nat, hs]
    rfl
  · refine ⟨.slice (some ⟨b, o, none⟩) n c, ?_, .inr ⟨b, o, none, c, ?_, ?_, ?_⟩, fun c hc => hc⟩
    · simp only [sliceP, hu, boundsP, boundP, nat, Nat.ble_eq_true_of_le (Nat.le_trans hn h2), cond_true, hs, Option.isSome_none, cond_false, Nat.sub_zero, addrAdd, Nat.zero_mul, Nat.add_zero]
      by_cases hc : c = 0
      · subst hc; rfl
      · rw [show Nat.beq c 0 = false by cases c with | zero => exact absurd rfl hc | succ c => rfl]; rfl
    · rw [List.length_take, Nat.min_eq_left hn]
    · rw [List.length_take, Nat.min_eq_left hn]; exact Nat.le_trans hn h2
    · rw [List.length_take, Nat.min_eq_left hn]
      have := load_sub h3 (i := 0) (m := n * 1) (by omega)
      rw [Nat.add_zero, List.drop_zero] at this
      rw [this]
      congr 1
      refine List.ext_getElem? fun i => ?_
      have e4 : ∀ l : List Int, l.flatMap (encI kd) = l.map fun x => .int kd x := fun l => by
        rw [List.flatMap_eq_foldl, List.map_eq_flatMap, List.flatMap_eq_foldl]; rfl
      rw [e4, e4, Nat.mul_one, List.map_take]
end Go.Ab

end
section
namespace Go.Ab
open Go.Proofs
set_option maxRecDepth 10000
open Tryz in
def Tryz.FFs810 := aj a1 <| aj s1 <| aj z1 <| aj n1 <| aj u2 <| aj a2 <| aj s2 <| aj z2 <| aj i2 <| aj u3 <| aj a3 <| aj s3 <| aj z3 <| aj i3 <| aj u5 <| aj a5 <| aj s5 <| aj z5 <| aj i5 <| aj u22 <| aj a22 <| aj s22 <| aj z22 <| aj q22 <| aj n22 <| aj u23 <| aj a23 <| aj s23 <| aj z23 <| aj n23 <| aj u24 <| aj a24 <| aj s24 <| aj z24 <| aj n24 <| aj u25 <| aj a25 <| aj s25 <| aj z25 <| aj q25 <| aj n25 <| aj a27 <| aj s27 <| aj z27 <| aj i27 <| aj n27 <| aj p27 <| aj ff27 <| aj d27 <| aj u29 <| aj a29 <| aj s29 <| aj z29 <| aj q29 <| aj n29 <| aj a31 <| aj s31 <| aj z31 <| aj i31 <| aj n31 <| aj p31 <| aj ff31 <| aj d31 <| aj a56 <| aj s56 <| aj z56 <| aj i56 <| aj n56 <| aj p56 <| aj ff56 <| aj d56 <| aj u97 <| aj a97 <| aj s97 <| aj z97 <| aj q97 <| aj i97 <| aj n97 <| aj a99 <| aj s99 <| aj z99 <| aj i99 <| aj n99 <| aj p99 <| aj ff99 <| d99
open Tryz in
def Tryz.FFs84 := aj a1 <| aj s1 <| aj z1 <| aj n1 <| aj u2 <| aj a2 <| aj s2 <| aj z2 <| aj i2 <| aj u3 <| aj a3 <| aj s3 <| aj z3 <| aj i3 <| aj u4 <| aj a4 <| aj s4 <| aj z4 <| aj n4 <| aj u5 <| aj a5 <| aj s5 <| aj z5 <| aj i5 <| aj u6 <| aj a6 <| aj s6 <| aj z6 <| aj i6 <| aj a7 <| aj s7 <| aj z7 <| aj i7 <| aj n7 <| aj p7 <| aj ff7 <| aj d7 <| aj a8 <| aj s8 <| aj z8 <| aj i8 <| aj n8 <| aj p8 <| aj ff8 <| aj d8 <| aj u9 <| aj a9 <| aj s9 <| aj z9 <| aj n9 <| aj u10 <| aj a10 <| aj s10 <| aj z10 <| aj n10 <| aj u11 <| aj a11 <| aj s11 <| aj z11 <| aj n11 <| aj u12 <| aj a12 <| aj s12 <| aj z12 <| aj i12 <| aj a13 <| aj s13 <| aj z13 <| aj i13 <| aj n13 <| aj p13 <| aj ff13 <| aj d13 <| aj a14 <| aj s14 <| aj z14 <| aj i14 <| aj n14 <| aj p14 <| aj ff14 <| aj d14 <| aj u22 <| aj a22 <| aj s22 <| aj z22 <| aj q22 <| aj n22 <| aj u23 <| aj a23 <| aj s23 <| aj z23 <| aj n23 <| aj u24 <| aj a24 <| aj s24 <| aj z24 <| aj n24 <| aj u25 <| aj a25 <| aj s25 <| aj z25 <| aj q25 <| aj n25 <| aj a27 <| aj s27 <| aj z27 <| aj i27 <| aj n27 <| aj p27 <| aj ff27 <| aj d27 <| aj u29 <| aj a29 <| aj s29 <| aj z29 <| aj q29 <| aj n29 <| aj a31 <| aj s31 <| aj z31 <| aj i31 <| aj n31 <| aj p31 <| aj ff31 <| aj d31 <| aj u33 <| aj a33 <| aj s33 <| aj z33 <| aj q33 <| aj i33 <| aj n33 <| aj a35 <| aj s35 <| aj z35 <| aj q35 <| aj n35 <| aj a56 <| aj s56 <| aj z56 <| aj i56 <| aj n56 <| aj p56 <| aj ff56 <| aj d56 <| aj u163 <| aj a163 <| aj s163 <| aj z163 <| aj q163 <| aj n163 <| aj a165 <| aj s165 <| aj z165 <| aj i165 <| aj n165 <| aj p165 <| aj ff165 <| d165
theorem works13_ok {h0 : Hp} (ok : h0.t.Sized h0.n) : Pure Tryz.abEnv 9 [] h0 (.bool true) := ret_orc rfl ⟨rfl, Gr.refl ok⟩
theorem draft13_ok {h0 : Hp} (ok : h0.t.Sized h0.n) {vB vY e0 e1 w0 w1 w2 : Value} {B : List Int} (hB : SlW h0 .u8 vB B) (fY : Fl vY) (q0 : Fl e0) (q1 : Fl e1) (q2 : Fl w0) (q3 : Fl w1) (q4 : Fl w2) :
    Ret Tryz.abEnv 10 [.agg ⟨[vB, e0, e1, w0, w1, w2, vY]⟩] h0 fun r h' => Gr h0 h' ∧ ∃ γ vx vy va, r = rawV γ vx vy va ∧ Good γ ∧ GraphAt h' vx vy va γ ∧ ∀ c, (blkOf vx c ∨ blkOf vy c ∨ blkOf va c) → h0.n ≤ c := by
  have S := St.init (M := NoM) ok
  have mn : min (B.length : Int) 60 = ((min B.length 60 : Nat) : Int) := by omega
  obtain ⟨vB', hsl, sB, bB⟩ := hB.low (kd' := .i64) (n := min B.length 60) Tryz.u22 Tryz.s5 (Nat.min_le_left _ _)
  have fB := hB.sl.fl
  have fB' := sB.fl
  refine enter_ret (n := 15) (rs := [.cell 2 31]) rfl Tryz.e10 rfl rfl rfl (Nat.le_of_ble_eq_true rfl) ?_
  simp only [BS, Nat.reduceLT]
  refine step_newS (box_new (by intro x e; cases e)) S ?_; clear S; intro h b1 S n_b1; simp only [vcells] at S
  simp only [BS, Tryz.FFs810]
  refine step_newS allocR_new S ?_; clear S; intro h b2 S n_b2
  simp only [BS, Option.isSome_some, Nat.add_zero, Nat.reduceLT, Nat.reduceEqDiff, Nat.reduceAdd, if_true, if_false, List.map_cons, List.map_nil, List.length_cons, List.length_nil, List.set_cons_zero, List.getElem?_cons_zero, Nat.zero_add, Option.map_some, Option.map_none, eq_self, Tryz.FFs810, hB.sl.lenq, mn, hsl, fB', S.ld (b := b1) (o := 0) (by first | exact m0 | exact m1 | exact m2 | exact m3 | exact m4 | exact m5 | exact m6 | exact m7) rfl]
  refine step_newS (box_new (by intro x e; cases e)) S ?_; clear S; intro h bd S n_bd; simp only [vcells] at S
  have hB' : SlAt h 1 (encI .u8) vB' (B.take (min B.length 60)) := sB.gr S.gr
  have nB : ¬ blkOf vB' bd := fun hc => by have := sB.lt ok hc; omega
  have lb' : (B.take (min B.length 60)).length < 1000000 := by rw [List.length_take]; omega
  simp only [BS, Nat.reduceLT, Nat.reduceEqDiff, if_true, if_false, List.map_cons, List.map_nil, List.append_nil, List.nil_append, eq_self]
  have k0 := S.fr.n
  have ap := S.apart
  simp only [keys, List.map_cons, List.map_nil, List.filterMap_nil, List.append_nil, List.nodup_cons, List.mem_cons, List.not_mem_nil, or_false, not_or] at ap
  have lt2 := (S.row (b := b2) m1).lt S.ok
  refine step_ret (raw_ok S.ok (S.row m0) ⟨hB', nB, lb', by omega⟩) ?_
  rintro v h ⟨f, γ, vx, vy, va, rfl, hγ, ga, hz⟩
  replace S := S.drop1.step f (fun c hc => by subst hc; exact .inr n_bd) (fun c hc e => by simp [keys] at hc; omega)
  have fx := ga.X.fl
  have fy := ga.Y.fl
  have fa := ga.A.fl
  simp only [BS, Nat.reduceLT, Nat.reduceEqDiff, if_true, if_false, eq_self, rawV]
  refine step_u (S.store (i := 0) rfl Tryz.s31 (by intro x e; cases e) rfl (by simp only [vcells, List.all_cons, List.all_nil, fx.2.1, fy.2.1, fa.2.1, Bool.and_true]; rfl) (Nat.le_of_ble_eq_true rfl) Nat.one_ne_zero) ?_
  clear S; rintro h ⟨S, mo⟩
  simp only [List.set_cons_zero, List.set_cons_succ, vcells, lay, List.take, List.drop, List.nil_append, List.cons_append, List.append_nil, List.length_cons, List.length_nil, Nat.reduceAdd, Nat.add_zero] at S
  simp only [BS, tupleOf]
  refine (res_cell (by decide) (by simp only [setR_at, ptr_eq, Nat.reduceEqDiff, reduceIte]; exact loadV_aggr Tryz.a31 Tryz.s31 (S.lds (b := b2) (o := 0) (n := 4) m0 (Nat.le_of_ble_eq_true rfl)))).2 (res_nil.2 ?_)
  exact ⟨S.gr, γ, vx, vy, va, rfl, hγ, ga.mo mo (fun c hc e => by have := hz c hc; omega), fun c hc => Nat.le_trans k0 (hz c hc)⟩
theorem IsD.turned {A : List Arc} {s t x y : Nat} (h : IsD A s t x) (k : IsD (A.map turn) t s y) : y = x := by
  have b1 : ∀ a ∈ A, ∃ b ∈ A.map turn, b.s = a.t ∧ b.t = a.s ∧ b.w = a.w := fun a ha => ⟨turn a, List.mem_map_of_mem ha, rfl, rfl, rfl⟩
  have b2 : ∀ a ∈ A.map turn, ∃ b ∈ A, b.s = a.t ∧ b.t = a.s ∧ b.w = a.w := fun a ha => by
    obtain ⟨b, hb, rfl⟩ := List.mem_map.1 ha
    exact ⟨b, hb, rfl, rfl, rfl⟩
  have key : ∀ w, Wk A s t w ↔ Wk (A.map turn) t s w := fun w => ⟨fun h => by simpa using Wk.back b1 h .nil, fun h => by simpa using Wk.back b2 h .nil⟩
  rcases h with ⟨p1, p2, p3⟩ | ⟨p1, p2⟩ <;> rcases k with ⟨q1, q2, q3⟩ | ⟨q1, q2⟩
  · have := p3 y ((key y).2 q2)
    have := q3 x ((key x).1 p2)
    omega
  · exact absurd ((key x).1 p2) (q2 x)
  · exact absurd ((key y).2 q2) (p2 y)
  · omega
theorem seekMeasuresLaw_ok {h0 : Hp} (ok : h0.t.Sized h0.n) {vB vY w0 w1 w2 : Value} {B : List Int} {e0 e1 u : Nat} (hB : SlW h0 .u8 vB B) (fY : Fl vY) (q2 : Fl w0) (q3 : Fl w1) (q4 : Fl w2) (l0 : e0 ≤ 255) (l1 : e1 ≤ 255) (lu : u ≤ 255) :
    Pure Tryz.abEnv 4 [.agg ⟨[vB, .int .u8 (e0 : Nat), .int .u8 (e1 : Nat), w0, w1, w2, vY]⟩, .int .u8 (u : Nat)] h0 (.bool true) := by
  have S := St.init (M := NoM) ok
  have fB := hB.sl.fl
  refine enter_ret (n := 122) (rs := [.tmp 4]) rfl Tryz.e4 rfl rfl rfl (Nat.le_of_ble_eq_true rfl) ?_
  simp only [BS, Nat.reduceLT]
  refine step_newS (box_new (by intro x e; cases e)) S ?_; clear S; intro h b2 S n_b2; simp only [vcells] at S
  simp only [BS, List.map_nil, List.append_nil]
  refine step_pure (works13_ok S.ok) ?_; intro h g; replace S := S.call g; clear g
  simp only [BS, Nat.reduceLT, Nat.reduceEqDiff, if_true, if_false, List.map_cons, List.map_nil, List.append_nil, List.nil_append, Bool.not_true, eq_self, Tryz.FFs84, List.drop_zero, List.take_succ_cons, List.take_zero, S.lds (b := b2) (o := 0) (n := 7) (by first | exact m0 | exact m1 | exact m2 | exact m3 | exact m4 | exact m5 | exact m6 | exact m7) (Nat.le_of_ble_eq_true rfl)]
  have old : ∀ {kd v xs}, SlW h0 kd v xs → SlW h kd v xs := fun s => s.imp (fun h => h) (fun ⟨b, o, c, h1, h2, h3⟩ => ⟨b, o, c, h1, h2, S.old h3 (fun h => h)⟩)
  have lt2 := (S.row (b := b2) m0).lt S.ok
  refine step_ret (draft13_ok S.ok (old hB) fY fl_int fl_int q2 q3 q4) ?_
  rintro r h ⟨g, γ, vx, vy, va, rfl, hγ, ga, hz⟩
  replace S := S.call g
  have n1 := hγ.n1
  have n2 := hγ.n2
  have many := hγ.many
  have fr := FAR_eq
  have fx := ga.X.fl
  have fy := ga.Y.fl
  have fa := ga.A.fl
  have ok1 := S.ok
  have S1 := S
  replace S := S.base
  clear old
  simp only [BS, Tryz.FFs84, rawV]
  refine step_newS allocR_new S ?_; clear S; intro h b5 S n_b5
  simp only [BS, Nat.reduceLT, Nat.reduceEqDiff, if_true, if_false, eq_self]
  refine step_u (S.store (i := 0) rfl Tryz.s31 (by intro x e; cases e) rfl (by simp only [vcells, List.all_cons, List.all_nil, fx.2.1, fy.2.1, fa.2.1, Bool.and_true]; rfl) (Nat.le_of_ble_eq_true rfl) Nat.one_ne_zero) ?_
  clear S; rintro h ⟨S, mo⟩
  simp only [List.set_cons_zero, List.set_cons_succ, vcells, lay, List.take, List.drop, List.nil_append, List.cons_append, List.append_nil, List.length_cons, List.length_nil, Nat.reduceAdd, Nat.add_zero] at S
  have ga2 : GraphAt h vx vy va γ := ga.mo S.fr (fun c hc hm => by
    have := hz c hc
    simp [keys] at hm
    omega)
  replace S := S1.rebase S
  simp only [BS, Nat.reduceLT, Nat.reduceEqDiff, if_true, if_false, List.map_cons, List.map_nil, List.append_nil, List.nil_append, eq_self, Tryz.FFs84, List.drop_zero, List.take_succ_cons, List.take_zero, S.lds (b := b5) (o := 0) (n := 4) (by first | exact m0 | exact m1 | exact m2 | exact m3 | exact m4 | exact m5 | exact m6 | exact m7) (Nat.le_of_ble_eq_true rfl)]
  have nn : Ret Tryz.abEnv 11 [rawV γ vx vy va] h _ := netNew_ok S.ok hγ ga2
  unfold rawV at nn
  refine step_ret nn ?_
  clear nn
  rintro r h ⟨pn, rfl, g, hp⟩
  have g0 := S.gr
  have ga3 := ga2.gr g
  replace S := S.call g
  obtain ⟨bp, rfl⟩ : ∃ b, pn = ptrTo b := by obtain ⟨b, _, _, _, _, _, e, _⟩ := hp.ex; exact ⟨b, e⟩
  have nz : (γ.nodes : Int) ≠ 0 := by omega
  have tm : ∀ x : Nat, (x : Int).tmod (γ.nodes : Int) = ((x % γ.nodes : Nat) : Int) := fun x => by rw [Int.tmod_eq_emod_of_nonneg (by omega)]; exact (Int.natCast_emod _ _).symm
  have wc : ∀ x : Nat, x ≤ 255 → wrapI .i64 (x : Int) = (x : Int) := fun x hx => by rw [wrap64] <;> omega
  have md : ∀ x : Nat, x % γ.nodes < γ.nodes := fun x => Nat.mod_lt _ (by omega)
  simp only [BS, Nat.reduceLT, Nat.reduceEqDiff, if_true, if_false, eq_self, Tryz.FFs84]
  refine draw_step (hoist_no rfl) (q := 0) (ps := []) (by kernel_rfl) ?_
  simp only [BS, convV, convKind, convP, cls, Nat.add_zero, Nat.reduceLT, Nat.reduceEqDiff, Nat.reduceAdd, if_true, if_false, List.map_cons, List.map_nil, List.append_nil, List.nil_append, Nat.reducePow, Nat.reduceDiv, Nat.reduceMod, Nat.reduceLeDiff, Bool.and_false, Int.reduceToNat, Int.reduceLE, Int.reduceLT, Int.cast_ofNat_Int, Nat.mul_one, Nat.zero_add, true_and, decide_false, eq_self, Tryz.FFs84, wc e0 l0, wc e1 l1, wc u lu, b_rem nz, tm e0, tm e1, tm u, S.ld (b := b2) (o := 1) (by first | exact m0 | exact m1 | exact m2 | exact m3 | exact m4 | exact m5 | exact m6 | exact m7) rfl, S.ld (b := b2) (o := 2) (by first | exact m0 | exact m1 | exact m2 | exact m3 | exact m4 | exact m5 | exact m6 | exact m7) rfl, S.ld (b := b5) (o := 0) (by first | exact m0 | exact m1 | exact m2 | exact m3 | exact m4 | exact m5 | exact m6 | exact m7) rfl]
  have hs := md e0
  have ht := md e1
  have hu := md u
  generalize e0 % γ.nodes = s at hs
  generalize e1 % γ.nodes = t at ht
  generalize u % γ.nodes = v at hu
  refine step_ret (dist13_ok S.ok hγ hp hs ht) ?_; rintro r h ⟨g, a, rfl, ha⟩; replace S := S.call g; replace hp := hp.gr g; replace ga3 := ga3.gr g; clear g
  simp only [BS, Nat.reduceLT, Nat.reduceEqDiff, if_true, if_false, List.map_cons, List.map_nil, List.append_nil, List.nil_append, eq_self]
  refine step_ret (dist13_ok S.ok hγ hp hs hu) ?_; rintro r h ⟨g, b, rfl, hb⟩; replace S := S.call g; replace hp := hp.gr g; replace ga3 := ga3.gr g; clear g
  simp only [BS, Nat.reduceLT, Nat.reduceEqDiff, if_true, if_false, List.map_cons, List.map_nil, List.append_nil, List.nil_append, eq_self]
  refine step_ret (dist13_ok S.ok hγ hp hu ht) ?_; rintro r h ⟨g, c, rfl, hc⟩; replace S := S.call g; replace hp := hp.gr g; replace ga3 := ga3.gr g; clear g
  simp only [BS, Nat.reduceLT, Nat.reduceEqDiff, if_true, if_false, eq_self]
  rename Hp => hE
  have okE := S.ok
  have gE := S.gr
  have r5 := S.row (b := b5) m0
  clear S
  have S := St.init (M := NoM) okE
  refine loop_ind (fun (i : Nat) ρ h => i ≤ γ.arcs.length ∧ St NoM hE h [] [] ∧ ρ 5 = ptrTo b5 ∧ ρ 6 = ptrTo bp ∧ ρ 8 = .int .i64 (s : Nat) ∧ ρ 9 = .int .i64 (t : Nat) ∧ ρ 11 = .int .i64 (a : Nat) ∧ ρ 12 = .int .i64 (b : Nat) ∧ ρ 13 = .int .i64 (c : Nat) ∧ ρ 14 = .int .i64 i) (fun i => γ.arcs.length - i) ?_ 0 _ _ ?_
  · clear S
    intro i ih ρ h ⟨hi, S, r5', r6, r8, r9, r11, r12, r13, r14⟩
    have w : wrapI .i64 ((i : Int) + 1) = ((i + 1 : Nat) : Int) := by rw [wrap64] <;> omega
    have l3 := S.old (r5.load1 (o := 3) rfl) (fun h => h)
    have GA := ga3.gr S.gr
    have HP := hp.gr S.gr
    by_cases hlt : i < γ.arcs.length
    · obtain ⟨c3, o3, x3, y3⟩ := GA.A.ix (kd := .i64) encA_len hlt
      have am := List.getElem_mem hlt
      generalize γ.arcs[i] = arc at y3 am
      have ak := hγ.arcs arc am
      have y30 : h.load c3 o3 1 = some [.int .i64 (arc.s : Nat)] := load_sub y3 (i := 0) (m := 1) (by omega)
      have y31 : h.load c3 (o3 + 1) 1 = some [.int .i64 (arc.t : Nat)] := load_sub y3 (i := 1) (m := 1) (by omega)
      have y32 : h.load c3 (o3 + 2) 1 = some [.int .i64 (arc.w : Nat)] := load_sub y3 (i := 2) (m := 1) (by omega)
      have p5 := lt_of_load S.ok l3
      have p3 := lt_of_load S.ok y30
      simp only [BS, Nat.reduceLT, Nat.reduceEqDiff, if_true, if_false, Nat.zero_add, decide_true, eq_self, Tryz.FFs84, r5', r14, l3, GA.A.lenq, lt_nat, hlt]
      refine draw_step (hoist_no rfl) (q := 0) (ps := [(13, 19), (13, 15)]) (by kernel_rfl) ?_
      simp only [BS, cls, Nat.add_zero, Nat.reduceLT, Nat.reduceEqDiff, Nat.reduceAdd, if_true, if_false, List.map_cons, List.map_nil, List.append_nil, List.nil_append, Nat.reducePow, Nat.reduceDiv, Nat.reduceMod, Nat.reduceLeDiff, Bool.and_true, Bool.and_false, Nat.zero_add, decide_true, decide_false, eq_self, Tryz.FFs84, r5', r6, r14, l3, x3, y30, y31]
      refine dn_ret (dist13_ok S.ok hγ HP ak.1 ak.2.1) ?_
      rintro r h' ⟨g, x, rfl, hx⟩
      have v5 := leaves_gr g p5
      have v3 := leaves_gr g p3
      replace S := S.call g
      have z3 := g.load l3
      have z32 := g.load y32
      have cx : ¬ (arc.w : Int) < (x : Int) := by
        have : Wk γ.arcs arc.s arc.t (0 + arc.w) := .snoc am .nil
        have := (hx.wk this).2.1
        omega
      simp only [BS, cls, Nat.reduceLT, Nat.reduceEqDiff, Nat.reduceAdd, if_true, if_false, Nat.reducePow, Nat.reduceDiv, Nat.reduceMod, Nat.reduceLeDiff, Bool.and_false, Nat.zero_add, decide_false, eq_self, Tryz.FFs84, r5', r14, z3, z32, x3, cx]
      refine ⟨by simp only [pairs_cons, pairs_nil, entry_noted, entry_hit, entry_miss, ne_eq, not_false_eq_true, note_load, note_run, note_alloc, noted_some, ll_tmp, ll_put, setR_at, Nat.reduceLT, Nat.reduceEqDiff, reduceIte, Bool.and_true, r5', ptr_eq, pair_rb v5, pair_rb v3], ?_⟩
      simp only [w]
      exact ih (i + 1) _ _ (by omega) ⟨by omega, S, by simp [setR, r5', ptr_eq], by simp [setR, r6, ptr_eq], by simp [setR, r8], by simp [setR, r9], by simp [setR, r11], by simp [setR, r12], by simp [setR, r13], by simp [setR]⟩
    · simp only [BS, Nat.reduceLT, Nat.reduceEqDiff, if_true, if_false, List.map_cons, List.map_nil, List.append_nil, List.nil_append, Nat.zero_add, decide_false, eq_self, Tryz.FFs84, r5', r6, r8, r14, l3, GA.A.lenq, lt_nat, hlt]
      refine step_ret (dist13_ok S.ok hγ HP hs hs) ?_; rintro r h' ⟨g, x, rfl, hx⟩; replace S := S.call g; replace HP := HP.gr g; clear g
      obtain rfl := hx.self
      have la := ha.le
      have lb := hb.le
      have lc := hc.le
      have c5 : (0 : Int) ≤ (a : Int) := by omega
      have c6 : (a : Int) ≤ 72057594037927936 := by omega
      have c4 : b < FAR → c < FAR → (a : Int) ≤ (b : Int) + (c : Int) := fun h1 h2 => by
        have := (ha.wk ((hb.far h1).trans (hc.far h2))).2.1
        omega
      have wbc : wrapI .i64 ((b : Int) + (c : Int)) = (b : Int) + (c : Int) := by rw [wrap64] <;> omega
      by_cases h1 : (72057594037927936 : Int) ≤ (b : Int)
      · simp only [BS, Nat.reduceLT, Nat.reduceEqDiff, if_true, if_false, List.map_cons, List.map_nil, List.append_nil, List.nil_append, List.getElem?_cons_zero, List.getElem?_cons_succ, Int.cast_ofNat_Int, Bool.not_true, decide_true, eq_self, r6, r12, h1]
        refine step_ret (netTurned_ok S.ok hγ HP) ?_; rintro r h' ⟨g, hT⟩; replace S := S.call g; clear g
        obtain ⟨b9, rfl⟩ : ∃ b, r = ptrTo b := by obtain ⟨b, _, _, _, _, _, e, _⟩ := hT.ex; exact ⟨b, e⟩
        simp only [BS, Nat.reduceLT, Nat.reduceEqDiff, if_true, if_false, List.map_cons, List.map_nil, List.append_nil, List.nil_append, List.getElem?_cons_zero, List.getElem?_cons_succ, eq_self, r8, r9]
        refine step_ret (dist13_ok S.ok (good_turn hγ) hT ht hs) ?_; rintro r h' ⟨g, y, rfl, hy⟩; replace S := S.call g; clear g
        obtain rfl := ha.turned hy
        simp only [BS, tupleOf, Nat.reduceLT, Nat.reduceEqDiff, if_true, if_false, List.getElem?_cons_zero, List.getElem?_cons_succ, true_and, decide_true, eq_self, r11, c5, c6]
        exact gE.trans S.gr
      · by_cases h2 : (72057594037927936 : Int) ≤ (c : Int)
        · simp only [BS, Nat.reduceLT, Nat.reduceEqDiff, if_true, if_false, List.map_cons, List.map_nil, List.append_nil, List.nil_append, List.getElem?_cons_zero, List.getElem?_cons_succ, Int.cast_ofNat_Int, Bool.not_true, Bool.not_false, decide_true, decide_false, eq_self, r6, r12, r13, h1, h2]
          refine step_ret (netTurned_ok S.ok hγ HP) ?_; rintro r h' ⟨g, hT⟩; replace S := S.call g; clear g
          obtain ⟨b9, rfl⟩ : ∃ b, r = ptrTo b := by obtain ⟨b, _, _, _, _, _, e, _⟩ := hT.ex; exact ⟨b, e⟩
          simp only [BS, Nat.reduceLT, Nat.reduceEqDiff, if_true, if_false, List.map_cons, List.map_nil, List.append_nil, List.nil_append, List.getElem?_cons_zero, List.getElem?_cons_succ, eq_self, r8, r9]
          refine step_ret (dist13_ok S.ok (good_turn hγ) hT ht hs) ?_; rintro r h' ⟨g, y, rfl, hy⟩; replace S := S.call g; clear g
          obtain rfl := ha.turned hy
          simp only [BS, tupleOf, Nat.reduceLT, Nat.reduceEqDiff, if_true, if_false, List.getElem?_cons_zero, List.getElem?_cons_succ, true_and, decide_true, eq_self, r11, c5, c6]
          exact gE.trans S.gr
        · simp only [BS, Nat.reduceLT, Nat.reduceEqDiff, if_true, if_false, List.map_cons, List.map_nil, List.append_nil, List.nil_append, List.getElem?_cons_zero, List.getElem?_cons_succ, Int.cast_ofNat_Int, Bool.not_false, decide_true, decide_false, eq_self, r6, r11, r12, r13, h1, h2, wbc, c4 (by omega) (by omega)]
          refine step_ret (netTurned_ok S.ok hγ HP) ?_; rintro r h' ⟨g, hT⟩; replace S := S.call g; clear g
          obtain ⟨b9, rfl⟩ : ∃ b, r = ptrTo b := by obtain ⟨b, _, _, _, _, _, e, _⟩ := hT.ex; exact ⟨b, e⟩
          simp only [BS, Nat.reduceLT, Nat.reduceEqDiff, if_true, if_false, List.map_cons, List.map_nil, List.append_nil, List.nil_append, List.getElem?_cons_zero, List.getElem?_cons_succ, eq_self, r8, r9]
          refine step_ret (dist13_ok S.ok (good_turn hγ) hT ht hs) ?_; rintro r h' ⟨g, y, rfl, hy⟩; replace S := S.call g; clear g
          obtain rfl := ha.turned hy
          simp only [BS, tupleOf, Nat.reduceLT, Nat.reduceEqDiff, if_true, if_false, List.getElem?_cons_zero, List.getElem?_cons_succ, true_and, decide_true, eq_self, r11, c5, c6]
          exact gE.trans S.gr
  · exact ⟨Nat.zero_le _, S, by simp [setR, ptr_eq], by simp [setR, ptr_eq], by simp [setR], by simp [setR], by simp [setR], by simp [setR], by simp [setR], by simp [setR]⟩
end Go.Ab

end
