/- Nets, cells, flags: what the functions do (part 4). -/
import Derived.Test.YtcjpjgegchdfmaaGreatDoorNetC
import Derived.ChangeSlices
import Derived.ChangeArms
import Derived.ChangeSame
set_option maxHeartbeats 4000000
set_option linter.defProp false
set_option linter.unusedVariables false
set_option linter.unusedSimpArgs false
section
namespace Go.Ab
open Go.Proofs
set_option maxRecDepth 10000
open Tryz in
def Tryz.FFrl281 := aj a1 <| aj s1 <| aj z1 <| aj n1 <| aj u2 <| aj a2 <| aj s2 <| aj z2 <| aj i2 <| aj u3 <| aj a3 <| aj s3 <| aj z3 <| aj i3 <| aj u24 <| aj a24 <| aj s24 <| aj z24 <| aj q24 <| aj n24 <| aj u25 <| aj a25 <| aj s25 <| aj z25 <| aj q25 <| aj n25 <| aj a27 <| aj s27 <| aj z27 <| aj i27 <| aj n27 <| aj p27 <| aj ff27 <| aj d27 <| aj a51 <| aj s51 <| aj z51 <| aj i51 <| aj n51 <| aj p51 <| aj ff51 <| d51
open Tryz in
def Tryz.FFrl239 := aj a1 <| aj s1 <| aj z1 <| aj n1 <| aj u2 <| aj a2 <| aj s2 <| aj z2 <| aj i2 <| aj u3 <| aj a3 <| aj s3 <| aj z3 <| aj i3 <| aj u4 <| aj a4 <| aj s4 <| aj z4 <| aj n4 <| aj u5 <| aj a5 <| aj s5 <| aj z5 <| aj i5 <| aj u6 <| aj a6 <| aj s6 <| aj z6 <| aj i6 <| aj a7 <| aj s7 <| aj z7 <| aj i7 <| aj n7 <| aj p7 <| aj ff7 <| aj d7 <| aj u24 <| aj a24 <| aj s24 <| aj z24 <| aj q24 <| aj n24 <| aj u25 <| aj a25 <| aj s25 <| aj z25 <| aj q25 <| aj n25 <| aj a27 <| aj s27 <| aj z27 <| aj i27 <| aj n27 <| aj p27 <| aj ff27 <| aj d27 <| aj a51 <| aj s51 <| aj z51 <| aj i51 <| aj n51 <| aj p51 <| aj ff51 <| d51
section
variable {M : Nat → Prop} {h0 h : Hp} {E : Env} {L : List (Nat × Ob)} {G : List GL}
def WrK {α : Type} (h : Hp) (k : Nat) (enc : α → List Value) (w : Value) (l : List α) : Prop := l ≠ [] → ∃ b, w = .slice (some ⟨b, 0, some k⟩) l.length l.length ∧ Row h b (l.flatMap enc) 1
theorem WrK.mo {α : Type} {M : Nat → Prop} {h h' : Hp} {k : Nat} {enc : α → List Value} {w : Value} {l : List α} (r : WrK h k enc w l) (g : Mo M h h') (hm : ∀ b, blkOf w b → ¬ M b) : WrK h' k enc w l :=
  fun hl => by obtain ⟨b, e, k⟩ := r hl; exact ⟨b, e, g.has (o := .row _ 1) k (hm b (by rw [e]; rfl))⟩
theorem St.cloneW {α : Type} {enc : α → List Value} {ys : List α} (S : St M h0 h L G) {t tx e : TypeId} {by_ k md : Nat} {zs : List Value} {b : Nat} {x : Value} (hu : E.und t = some (.slice e)) (he : ElemIs E e by_ k zs) (hb : 0 < by_)
    (hx : intTy E tx = some false) (hs : SlAt h k enc x ys) (hen : ∀ x, (enc x).length = k) (hk : 0 < k) (hsz : (ys.length * k) * (by_ + 1) ≤ 70368744177664) {ts : List TypeId}
    (hl : Row h b [] md) :
    ∃ h' v', appendV E h (t :: tx :: ts) (.slice (some ⟨b, 0, none⟩) 0 0) x = some (h', v') ∧ St M h0 h' L G ∧ Gr h h' ∧ SlAt h' k enc v' ys ∧ (∀ c, blkOf v' c → c = b ∨ h.n ≤ c) ∧ WrK h' k enc v' ys := by
  obtain ⟨h', v', h1, h2, h3, h4, h5⟩ := S.cloneSl (enc := enc) (xs := []) hu he hb hx hs hen hk (by simpa using hsz) (ts := ts) (b := b) (md := md) (by simpa using hl)
  refine ⟨h', v', h1, h2, h3, by simpa using h4, h5, fun hne => ?_⟩
  obtain ⟨h'', v'', k1, k2⟩ := S.clone hu he hb hx hs.src (flatMap_len hen ys).symm (n := 0) (by simp) hk (by rw [flatMap_len hen]; simpa using hsz) (ts := ts) hl
  have h1' : appendV E h (t :: tx :: ts) (.slice (some ⟨b, 0, none⟩) 0 0) x = some (h', v') := h1
  rw [h1'] at k1
  cases k1
  rcases k2 with ⟨hm, _⟩ | ⟨b', e1, T⟩
  · exact absurd (List.length_eq_zero_iff.1 hm) hne
  · refine ⟨b', by rw [e1, Nat.zero_add], ?_⟩
    have := T.row (b := b') m0
    simpa using this
theorem dq_clone {cx : Cx} {Q : Post} {a : List Oper} {q : Nat} {ps : List (Nat × Nat)} {o : Oper} {os : List Oper} {i : Nat} {fk : List Fr} {l : Loc} {tr : List (Nat × Tch)} {α : Type} {enc : α → List Value} {ys : List α} (S : St M h0 h L G) {t tx e : TypeId} {by_ k md : Nat} {zs : List Value} {b : Nat} {x : Value} (hu : E.und t = some (.slice e)) (he : ElemIs E e by_ k zs) (hb : 0 < by_)
    (hx : intTy E tx = some false) (hs : SlAt h k enc x ys) (hen : ∀ x, (enc x).length = k) (hk : 0 < k) (hsz : (ys.length * k) * (by_ + 1) ≤ 70368744177664) {ts : List TypeId}
    (hl : Row h b [] md) (hK : ∀ h' v', Gr h h' → SlAt h' k enc v' ys → (∀ c, blkOf v' c → c = b ∨ h.n ≤ c) → WrK h' k enc v' ys → Run E (lim E) cx Q (.opsD a q ps os (i + 1) tr :: fk) .normal (l.put o.dst v') h') :
    DQ E cx Q a q ps o os i fk l h tr (wrapV (appendV E { h with lo := h.n } (t :: tx :: ts) (.slice (some ⟨b, 0, none⟩) 0 0) x)) := by
  obtain ⟨h', v', h1, _, g, s, c, w⟩ := (St.init (M := NoM) (h := { h with lo := h.n }) S.ok).cloneW (enc := enc) (ys := ys) hu he hb hx hs hen hk hsz (ts := ts) hl
  rw [h1]
  exact ⟨quiet_ok g, hK _ _ (gr_lo g) s c w⟩
end
theorem copyRaw_ok {h0 : Hp} (ok : h0.t.Sized h0.n) {γ : Gra} (hγ : Good γ) {vx vy va : Value} (ga : GraphAt h0 vx vy va γ) :
    Ret Tryz.abEnv 81 [rawV γ vx vy va] h0 fun r h' => Gr h0 h' ∧ ∃ vx' vy' va', r = rawV γ vx' vy' va' ∧ GraphAt h' vx' vy' va' γ ∧ WrK h' 3 encA va' γ.arcs ∧ (∀ c, blkOf vx' c ∨ blkOf vy' c ∨ blkOf va' c → h0.n ≤ c) ∧ ∀ c, blkOf va' c → ¬ blkOf vx' c ∧ ¬ blkOf vy' c := by
  have S := St.init (M := NoM) ok
  have lX := hγ.lX
  have lY := hγ.lY
  have n2 := hγ.n2
  have many := hγ.many
  have fx := ga.X.fl
  have fy := ga.Y.fl
  have fa := ga.A.fl
  refine enter_ret (n := 18) (rs := [.cell 2 27]) rfl Tryz.e81 rfl rfl rfl (lbt rfl) ?_
  simp only [BS, Nat.reduceLT, rawV]
  refine step_newS (box_new (by intro x e; cases e)) S ?_; clear S; intro h b S n_b; simp only [vcells] at S
  simp only [BS, Tryz.FFrl281]
  refine step_newS allocR_new S ?_; clear S; intro h b2 S n_b2
  simp only [BS]
  refine draw_step (hoist_no rfl) (q := 1636) (ps := [(1, 13), (9, 12), (5, 12), (1, 9), (5, 8), (1, 5)]) (by kernel_rfl) ?_
  simp only [BS, LB, cls, Nat.reduceLT, Nat.reduceEqDiff, Nat.reduceAdd, Nat.reducePow, Nat.reduceDiv, Nat.reduceMod, Nat.reduceLeDiff, Tryz.FFrl281, S.ld (b := b) (o := 0) (by repeat constructor) rfl, S.ld (b := b) (o := 1) (by repeat constructor) rfl]
  have z0 := fun c (hc : c ∈ keys _ _) => S.key_lt hc
  refine dq_newS (bs_new (by first | exact Tryz.u24 | exact Tryz.u25) (by first | exact Tryz.e2E | exact Tryz.e51E) (by decide) (by first | rfl | exact fillE )) S ?_; clear S; intro h b5 S n_b5 e_b5; simp only [repL, setL, vcells, List.cons_append, List.nil_append, List.append_nil, List.set_cons_zero, List.set_cons_succ, Nat.reduceMul, Nat.reduceAdd, Nat.zero_mul, Nat.zero_add, Nat.mul_one, Nat.one_mul] at S
  rw [← e_b5] at z0
  simp only [BS, LB, cls, Nat.reduceLT, Nat.reduceEqDiff, Nat.reduceAdd, Nat.reducePow, Nat.reduceDiv, Nat.reduceMod, Nat.reduceLeDiff, Tryz.FFrl281, S.ld (b := b) (o := 0) (by repeat constructor) rfl, S.ld (b := b) (o := 1) (by repeat constructor) rfl]
  have l5 := (S.row (b := b5) m0).lt S.ok
  refine dq_clone S (enc := encI .i64) Tryz.u24 Tryz.e2E (by decide) Tryz.n24 (ga.X.gr S.gr) (fun x => rfl) (by decide) (by omega) (S.row (b := b5) m0) ?_
  intro h v1 g s1 q1 _
  have p1 : ∀ c, blkOf v1 c → b5 ≤ c := fun c hc => by have := q1 c hc; omega
  have gn5 := g.n
  replace S := (S.call g).drop1; clear g
  have u1 : ∀ c, blkOf v1 c → c < h.n := fun c hc => s1.lt S.ok hc
  have Sb := S
  have i1 := S.fr.n
  replace S := S.base
  simp only [BS, LB, cls, Nat.reduceAdd, Nat.reducePow, Nat.reduceDiv, Nat.reduceMod, Nat.reduceLeDiff]
  refine dq_newS (bs_new (by first | exact Tryz.u24 | exact Tryz.u25) (by first | exact Tryz.e2E | exact Tryz.e51E) (by decide) (by first | rfl | exact fillE )) S ?_; clear S; intro h b9 S n_b9 e_b9; simp only [repL, setL, vcells, List.cons_append, List.nil_append, List.append_nil, List.set_cons_zero, List.set_cons_succ, Nat.reduceMul, Nat.reduceAdd, Nat.zero_mul, Nat.zero_add, Nat.mul_one, Nat.one_mul] at S
  rw [← e_b9] at u1
  replace s1 := s1.mo S.fr (fun c hc hk => by have := p1 c hc; have := z0 c hk; omega)
  replace S := Sb.rebase S
  clear Sb
  simp only [BS, LB, cls, Nat.reduceLT, Nat.reduceEqDiff, Nat.reduceAdd, Nat.reducePow, Nat.reduceDiv, Nat.reduceMod, Nat.reduceLeDiff, Tryz.FFrl281, S.ld (b := b) (o := 2) (by repeat constructor) rfl]
  have l9 := (S.row (b := b9) m0).lt S.ok
  refine dq_clone S (enc := encI .i64) Tryz.u24 Tryz.e2E (by decide) Tryz.n24 (ga.Y.gr S.gr) (fun x => rfl) (by decide) (by omega) (S.row (b := b9) m0) ?_
  intro h v2 g s2 q2 _
  have p2 : ∀ c, blkOf v2 c → b9 ≤ c := fun c hc => by have := q2 c hc; omega
  have gn9 := g.n
  replace S := (S.call g).drop1
  replace s1 := s1.gr g; clear g
  have u2 : ∀ c, blkOf v2 c → c < h.n := fun c hc => s2.lt S.ok hc
  have Sb := S
  have i2 := S.fr.n
  replace S := S.base
  simp only [BS, LB, cls, Nat.reduceAdd, Nat.reducePow, Nat.reduceDiv, Nat.reduceMod, Nat.reduceLeDiff]
  refine dq_newS (bs_new (by first | exact Tryz.u24 | exact Tryz.u25) (by first | exact Tryz.e2E | exact Tryz.e51E) (by decide) (by first | rfl | exact fillE )) S ?_; clear S; intro h b13 S n_b13 e_b13; simp only [repL, setL, vcells, List.cons_append, List.nil_append, List.append_nil, List.set_cons_zero, List.set_cons_succ, Nat.reduceMul, Nat.reduceAdd, Nat.zero_mul, Nat.zero_add, Nat.mul_one, Nat.one_mul] at S
  rw [← e_b13] at u2
  have b59 : b5 < b9 := by omega
  replace s1 := s1.mo S.fr (fun c hc hk => by have := p1 c hc; have := z0 c hk; omega)
  replace s2 := s2.mo S.fr (fun c hc hk => by have := p2 c hc; have := z0 c hk; omega)
  replace S := Sb.rebase S
  clear Sb
  simp only [BS, LB, cls, Nat.reduceLT, Nat.reduceEqDiff, Nat.reduceAdd, Nat.reducePow, Nat.reduceDiv, Nat.reduceMod, Nat.reduceLeDiff, Tryz.FFrl281, S.ld (b := b) (o := 3) (by repeat constructor) rfl]
  have l13 := (S.row (b := b13) m0).lt S.ok
  refine dn_v (S.cloneW (enc := encA) Tryz.u25 Tryz.e51E (by decide) Tryz.n25 (ga.A.gr S.gr) encA_len (by decide) (by omega) (S.row (b := b13) m0)) ?_
  clear S; rintro h v3 ⟨S, g, s3, q3, w3⟩
  have p3 : ∀ c, blkOf v3 c → b13 ≤ c := fun c hc => by have := q3 c hc; omega
  have gn13 := g.n
  replace S := S.drop1
  replace s1 := s1.gr g; replace s2 := s2.gr g; clear g
  have b913 : b9 < b13 := by omega
  obtain ⟨va1, vn1, vc1, rfl⟩ := s1.form
  obtain ⟨va2, vn2, vc2, rfl⟩ := s2.form
  obtain ⟨va3, vn3, vc3, rfl⟩ := s3.form
  have f1 := s1.fl
  have f2 := s2.fl
  have f3 := s3.fl
  have kb := z0 b (by simp [keys])
  have kb2 := z0 b2 (by simp [keys])
  simp only [BS, LB, cls, Nat.reduceLT, Nat.reduceEqDiff, Nat.reduceAdd, Nat.reducePow, Nat.reduceDiv, Nat.reduceMod, Nat.reduceLeDiff, Tryz.FFrl281]
  refine dn_u (S.store (i := 0) rfl Tryz.s27 (by intro x e; cases e) rfl (by simp only [vcells, List.all_cons, List.all_nil, f1.2.1, f2.2.1, f3.2.1, Bool.and_true]; rfl) (lbt rfl) ono) ?_
  clear S; rintro h ⟨S, mo⟩
  simp only [List.set_cons_zero, List.set_cons_succ, vcells, lay, List.take, List.drop, List.nil_append, List.cons_append, List.append_nil, List.length_cons, List.length_nil, Nat.reduceAdd, Nat.add_zero] at S
  simp only [BS, tupleOf, Nat.reduceAdd]
  have d5 : b ≠ b5 := by omega
  have d9 : b ≠ b9 := by omega
  have d13 : b ≠ b13 := by omega
  refine ⟨by simp only [pairs_cons, pairs_nil, entry_noted, entry_hit, entry_miss, ne_eq, not_false_eq_true, note_load, note_run, note_alloc, noted_some, ll_tmp, ll_put, setR_at, Nat.reduceLT, Nat.reduceEqDiff, reduceIte, Bool.and_true, ptr_eq, argR_zero, note_app, noteSl, pair_bb d5, pair_bb d9, pair_bb d13, pair_bb d5.symm, pair_bb d9.symm, pair_bb d13.symm, pair_bb (show b9 ≠ b13 by omega), pair_bb (show b5 ≠ b9 by omega), pair_bb (show b5 ≠ b13 by omega), pair_bb (show b9 ≠ b5 by omega)], ?_⟩
  refine ⟨_, rr_cell (by decide) (by simp only [setR_at, ptr_eq, Nat.reduceEqDiff, reduceIte]; exact loadV_aggr Tryz.a27 Tryz.s27 (S.lds (b := b2) (o := 0) (n := 4) m0 (lbt rfl))), ?_⟩
  refine ⟨S.gr, _, _, _, rfl, ⟨s1.mo mo (fun c hc e => ?_), s2.mo mo (fun c hc e => ?_), s3.mo mo (fun c hc e => ?_)⟩, w3.mo mo (fun c hc e => ?_), fun c hc => ?_, fun c hc => ⟨fun h1 => ?_, fun h2 => ?_⟩⟩
  · have := p1 c hc; omega
  · have := p2 c hc; omega
  · have := p3 c hc; omega
  · have := p3 c hc; omega
  · rcases hc with h | h | h
    · have := p1 c h; omega
    · have := p2 c h; omega
    · have := p3 c h; omega
  · have := p3 c hc; have := u1 c h1; omega
  · have := p3 c hc; have := u2 c h2; omega
def turnK (A : List Arc) (k : Nat) : List Arc := (A.take k).map turn ++ A.drop k
theorem turnK_len (A : List Arc) (k : Nat) : (turnK A k).length = A.length := by simp [turnK]; omega
theorem flatA_set {A : List Arc} : ∀ {k : Nat} (hk : k < A.length) (x : Nat), (A.flatMap encA).set (k * 3) (.int .i64 (x : Nat)) = (A.set k ⟨x, A[k].t, A[k].w⟩).flatMap encA ∧ (A.flatMap encA).set (k * 3 + 1) (.int .i64 (x : Nat)) = (A.set k ⟨A[k].s, x, A[k].w⟩).flatMap encA := by
  induction A with
  | nil => intro k hk; simp at hk
  | cons a A ih =>
    intro k hk x
    cases k with
    | zero => exact ⟨rfl, rfl⟩
    | succ k =>
      obtain ⟨h1, h2⟩ := ih (k := k) (by simpa using hk) x
      have e1 : (k + 1) * 3 = k * 3 + 3 := by omega
      have e2 : (k + 1) * 3 + 1 = k * 3 + 1 + 3 := by omega
      rw [e1, show k * 3 + 3 + 1 = k * 3 + 1 + 3 from rfl]
      simp only [List.flatMap_cons, encA, List.cons_append, List.nil_append, List.set_cons_succ, List.getElem_cons_succ] at h1 h2 ⊢
      exact ⟨by rw [h1], by rw [h2]⟩
theorem turnK_step {A : List Arc} {k : Nat} (hk : k < A.length) : ((turnK A k).set k ⟨A[k].t, A[k].t, A[k].w⟩).set k ⟨A[k].t, A[k].s, A[k].w⟩ = turnK A (k + 1) := by
  have hl : ((A.take k).map turn).length = k := by simp; omega
  rw [List.set_set]
  unfold turnK
  rw [List.set_append_right _ _ (by omega), hl, Nat.sub_self, List.drop_eq_getElem_cons hk, List.set_cons_zero, List.take_succ_eq_append_getElem hk, List.map_append, List.append_assoc]
  rfl
theorem turnK_at {A : List Arc} {k : Nat} (hk : k < A.length) : (turnK A k)[k]? = some A[k] := by
  have hl : ((A.take k).map turn).length = k := by simp; omega
  unfold turnK
  rw [List.getElem?_append_right (by omega), hl, Nat.sub_self, List.drop_eq_getElem_cons hk]; rfl
def turnG (γ : Gra) : Gra := { γ with arcs := γ.arcs.map turn }
theorem turnK_all (A : List Arc) : turnK A A.length = A.map turn := by simp [turnK]
theorem turned_ok {h0 : Hp} (ok : h0.t.Sized h0.n) {γ : Gra} (hγ : Good γ) {vx vy va : Value} (ga : GraphAt h0 vx vy va γ) :
    Ret Tryz.abEnv 39 [rawV γ vx vy va] h0 fun r h' => Gr h0 h' ∧ ∃ vx' vy' va', r = rawV γ vx' vy' va' ∧ GraphAt h' vx' vy' va' (turnG γ) := by
  have S := St.init (M := NoM) ok
  have many := hγ.many
  have fx := ga.X.fl
  have fy := ga.Y.fl
  have fa := ga.A.fl
  refine enter_ret (n := 37) (rs := [.cell 2 27]) rfl Tryz.e39 rfl rfl rfl (lbt rfl) ?_
  simp only [BS, Nat.reduceLT, rawV]
  refine step_newS (box_new (by intro x e; cases e)) S ?_; clear S; intro h b1 S n_b1; simp only [vcells] at S
  simp only [BS, Tryz.FFrl239]
  refine step_newS allocR_new S ?_; clear S; intro h b2 S n_b2
  simp only [BS, LB, Nat.reduceLT, Nat.reduceEqDiff, Tryz.FFrl239, S.lds (b := b1) (o := 0) (n := 4) (by repeat constructor) (lbt rfl)]
  have zk := fun c (hc : c ∈ keys _ _) => S.key_lt hc
  have i0 := S.fr.n
  have cp := copyRaw_ok S.ok hγ (ga.gr S.gr)
  unfold rawV at cp
  refine step_ret cp ?_
  rintro r h ⟨g, vx', vy', va', er, ga', w', hb, hd⟩
  subst er
  have S1 := S.call g
  clear S
  have ok1 := S1.ok
  have fx' := ga'.X.fl
  have fy' := ga'.Y.fl
  have fa' := ga'.A.fl
  have S := S1.base
  simp only [BS, Tryz.FFrl239]
  refine step_newS allocR_new S ?_; clear S; intro h b3 S n_b3
  simp only [BS, LB, Nat.reduceLT, Nat.reduceEqDiff]
  refine step_u (S.store (i := 0) rfl Tryz.s27 (by intro x e; cases e) rfl (by simp only [vcells, List.all_cons, List.all_nil, fx'.2.1, fy'.2.1, fa'.2.1, Bool.and_true]; rfl) (lbt rfl) ono) ?_
  clear S; rintro h ⟨S, _⟩
  simp only [List.set_cons_zero, List.set_cons_succ, vcells, lay, List.take, List.drop, List.nil_append, List.cons_append, List.append_nil, List.length_cons, List.length_nil, Nat.reduceAdd, Nat.add_zero] at S
  have lX : ∀ c, blkOf vx' c → c < b3 := fun c hc => by have := ga'.X.lt ok1 hc; omega
  have lY : ∀ c, blkOf vy' c → c < b3 := fun c hc => by have := ga'.Y.lt ok1 hc; omega
  have lA : ∀ c, blkOf va' c → c < b3 := fun c hc => by have := ga'.A.lt ok1 hc; omega
  replace ga' := ga'.mo S.fr (fun c hc hk => by have := hb c hc; have := zk c hk; omega)
  replace w' := w'.mo S.fr (fun c hc hk => by have := hb c (.inr (.inr hc)); have := zk c hk; omega)
  replace S := S1.rebase S
  clear S1 g cp
  simp only [BS]
  have k1 := zk b1 (by simp [keys])
  have k2 := zk b2 (by simp [keys])
  by_cases hne : γ.arcs = []
  · refine loop_ind (fun (k : Nat) ρ h' => h' = h ∧ ρ 1 = ptrTo b1 ∧ ρ 2 = ptrTo b2 ∧ ρ 3 = ptrTo b3 ∧ ρ 4 = .int .i64 (0 : Nat)) (fun k => 1 - k) ?_ 0 _ _ ?_
    · rintro k ih ρ h' ⟨rfl, r1, r2, r3, r4⟩
      have h00 : ¬ ((0 : Nat) < γ.arcs.length) := by rw [hne]; decide
      have h01 : ¬ ((0 : Int) < (γ.arcs.length : Int)) := by omega
      simp only [BS, LB, Nat.reduceLT, Nat.reduceEqDiff, Int.cast_ofNat_Int, Tryz.FFrl239, r2, r3, r4, ga'.A.lenq, h01, List.drop_zero, List.take_succ_cons, List.take_zero, S.lds (b := b3) (o := 0) (n := 4) (by repeat constructor) (lbt rfl), S.ld (b := b3) (o := 3) (by repeat constructor) rfl]
      refine step_u (S.store (i := 1) rfl Tryz.s27 (by intro x e; cases e) rfl (by simp only [vcells, List.all_cons, List.all_nil, fx'.2.1, fy'.2.1, fa'.2.1, Bool.and_true]; rfl) (lbt rfl) ono) ?_
      rintro h ⟨S, mo⟩
      simp only [List.set_cons_zero, List.set_cons_succ, vcells, lay, List.take, List.drop, List.nil_append, List.cons_append, List.append_nil, List.length_cons, List.length_nil, Nat.reduceAdd, Nat.add_zero] at S
      simp only [BS, tupleOf]
      refine ⟨_, rr_cell (by decide) (by simp only [setR_at, r2, ptr_eq, Nat.reduceEqDiff, reduceIte]; exact loadV_aggr Tryz.a27 Tryz.s27 (S.lds (b := b2) (o := 0) (n := 4) m1 (lbt rfl))), ?_⟩
      refine ⟨S.gr, _, _, _, rfl, ⟨ga'.X.mo mo (fun c hc e => ?_), ga'.Y.mo mo (fun c hc e => ?_), ?_⟩⟩
      · have := hb c (.inl hc); omega
      · have := hb c (.inr (.inl hc)); omega
      · have := ga'.A.mo mo (fun c hc e => by have := hb c (.inr (.inr hc)); omega)
        simpa [turnG, hne] using this
    · exact ⟨rfl, by simp [setR, ptr_eq], by simp [setR, ptr_eq], by simp [setR, ptr_eq], by simp [setR]⟩
  · obtain ⟨ba, e, row⟩ := w' hne
    subst e
    have nba := hb ba (.inr (.inr rfl))
    have nb3 := lA ba rfl
    replace S := S.push (b := ba) (o := .row (γ.arcs.flatMap encA) 1) (.inl (by omega)) row (by intro hc; simp [keys] at hc; have := zk b1 (by simp [keys]); have := zk b2 (by simp [keys]); omega)
    have SL := S
    replace S := S.base
    refine loop_ind (fun (k : Nat) ρ h' => k ≤ γ.arcs.length ∧ St (· ∈ keys [(ba, Ob.row (γ.arcs.flatMap encA) 1), (b3, .row [.int .i64 γ.nodes, vx', vy', .slice (some ⟨ba, 0, some 3⟩) γ.arcs.length γ.arcs.length] 1), (b2, .row [.int .i64 0, .slice none 0 0, .slice none 0 0, .slice none 0 0] 1), (b1, .row [.int .i64 γ.nodes, vx, vy, va] 1)] []) h h' [(ba, Ob.row ((turnK γ.arcs k).flatMap encA) 1), (b3, .row [.int .i64 γ.nodes, vx', vy', .slice (some ⟨ba, 0, some 3⟩) γ.arcs.length γ.arcs.length] 1), (b2, .row [.int .i64 0, .slice none 0 0, .slice none 0 0, .slice none 0 0] 1), (b1, .row [.int .i64 γ.nodes, vx, vy, va] 1)] [] ∧ ρ 1 = ptrTo b1 ∧ ρ 2 = ptrTo b2 ∧ ρ 3 = ptrTo b3 ∧ ρ 4 = .int .i64 k) (fun k => γ.arcs.length - k) ?_ 0 _ _ ?_
    · clear S
      intro k ih ρ h2 ⟨hk, S, r1, r2, r3, r4⟩
      have wk : wrapI .i64 ((k : Int) + 1) = ((k + 1 : Nat) : Int) := by rw [wrap64] <;> omega
      have GA := ga.gr (SL.rebase S).gr
      by_cases hkt : k < γ.arcs.length
      · obtain ⟨c3, o3, x3, y3⟩ := GA.A.ix (kd := .i64) encA_len hkt
        have y31 : h2.load c3 (o3 + 1) 1 = some [.int .i64 (γ.arcs[k].t : Nat)] := load_sub y3 (i := 1) (m := 1) (by omega)
        have y30 : h2.load c3 o3 1 = some [.int .i64 (γ.arcs[k].s : Nat)] := load_sub y3 (i := 0) (m := 1) (by omega)
        have ipk : idxP (.int .i64 (k : Int)) γ.arcs.length = some k := idxP_nat hkt
        simp only [BS, LB, Nat.reduceLT, Nat.reduceEqDiff, Tryz.FFrl239, r3, r4, lt_nat, hkt, S.ld (b := b3) (o := 3) (by repeat constructor) rfl]
        refine draw_step (hoist_no rfl) (q := 0) (ps := []) (by kernel_rfl) ?_
        simp only [BS, LB, cls, Nat.reduceLT, Nat.reduceEqDiff, Nat.reduceAdd, Nat.reducePow, Nat.reduceDiv, Nat.reduceMod, Nat.reduceLeDiff, Tryz.FFrl239, r1, r3, r4, x3, y31, ipk, S.ld (b := b3) (o := 3) (by repeat constructor) rfl, S.ld (b := b1) (o := 3) (by repeat constructor) rfl]
        have len3 : (List.flatMap encA (turnK γ.arcs k)).length = γ.arcs.length * 3 := by rw [flatMap_len encA_len, turnK_len]
        refine dn_u (store_fl S (i := 0) rfl Tryz.s3 fl_int (by rw [len3]; omega) ono) ?_
        clear S y30 y31 x3 y3; rintro h2 ⟨S, _⟩
        have hk1 : k < (turnK γ.arcs k).length := by rw [turnK_len]; exact hkt
        have eg : (turnK γ.arcs k)[k] = γ.arcs[k] := Option.some.inj ((List.getElem?_eq_getElem hk1).symm.trans (turnK_at hkt))
        simp only [List.set_cons_zero] at S
        rw [(flatA_set hk1 _).1, eg] at S
        have GA := ga.gr (SL.rebase S).gr
        obtain ⟨c3, o3, x3, y3⟩ := GA.A.ix (kd := .i64) encA_len hkt
        have y30 : h2.load c3 o3 1 = some [.int .i64 (γ.arcs[k].s : Nat)] := load_sub y3 (i := 0) (m := 1) (by omega)
        simp only [BS, LB, Nat.reduceAdd]
        refine draw_step (hoist_no rfl) (q := 0) (ps := []) (by kernel_rfl) ?_
        simp only [BS, LB, cls, Nat.reduceLT, Nat.reduceEqDiff, Nat.reduceAdd, Nat.reducePow, Nat.reduceDiv, Nat.reduceMod, Nat.reduceLeDiff, Tryz.FFrl239, r1, r3, r4, x3, y30, ipk, S.ld (b := b3) (o := 3) (by repeat constructor) rfl, S.ld (b := b1) (o := 3) (by repeat constructor) rfl]
        refine dn_u (store_fl S (i := 0) rfl Tryz.s3 fl_int (by rw [flatMap_len encA_len, List.length_set, turnK_len]; omega) ono) ?_
        clear S; rintro h2 ⟨S, _⟩
        have hk2 : k < ((turnK γ.arcs k).set k ⟨γ.arcs[k].t, γ.arcs[k].t, γ.arcs[k].w⟩).length := by rw [List.length_set]; exact hk1
        simp only [List.set_cons_zero] at S
        rw [(flatA_set hk2 _).2, List.getElem_set_self, turnK_step hkt] at S
        simp only [BS, LB, Nat.reduceLT, Nat.reduceEqDiff, Nat.reduceAdd, r4, wk]
        exact ih (k + 1) _ _ (by omega) ⟨by omega, S, by simp [setR, r1, ptr_eq], by simp [setR, r2, ptr_eq], by simp [setR, r3, ptr_eq], by simp [setR]⟩
      · have hkk : k = γ.arcs.length := by omega
        subst hkk
        rw [turnK_all] at S
        simp only [BS, LB, Nat.reduceLT, Nat.reduceEqDiff, Tryz.FFrl239, r2, r3, r4, lt_nat, hkt, List.drop_zero, List.take_succ_cons, List.take_zero, S.lds (b := b3) (o := 0) (n := 4) (by repeat constructor) (lbt rfl), S.ld (b := b3) (o := 3) (by repeat constructor) rfl]
        refine step_u (S.store (i := 2) rfl Tryz.s27 (by intro x e; cases e) rfl (by simp only [vcells, List.all_cons, List.all_nil, fx'.2.1, fy'.2.1, fa'.2.1, Bool.and_true]; rfl) (lbt rfl) ono) ?_
        clear S; rintro h2 ⟨S, mo⟩
        simp only [List.set_cons_zero, List.set_cons_succ, vcells, lay, List.take, List.drop, List.nil_append, List.cons_append, List.append_nil, List.length_cons, List.length_nil, Nat.reduceAdd, Nat.add_zero] at S
        simp only [BS, tupleOf]
        refine ⟨_, rr_cell (by decide) (by simp only [setR_at, r2, ptr_eq, Nat.reduceEqDiff, reduceIte]; exact loadV_aggr Tryz.a27 Tryz.s27 (S.lds (b := b2) (o := 0) (n := 4) m2 (lbt rfl))), ?_⟩
        have row := S.row (b := ba) m0
        refine ⟨(SL.rebase S).gr, _, _, _, rfl, ⟨ga'.X.mo S.fr (fun c hc e => ?_), ga'.Y.mo S.fr (fun c hc e => ?_), ?_⟩⟩
        · have := hb c (.inl hc); have := lX c hc; have h1 := hd ba rfl
          simp [keys] at e
          rcases e with rfl | rfl | rfl | rfl
          · exact h1.1 hc
          all_goals omega
        · have := hb c (.inr (.inl hc)); have := lY c hc; have h1 := hd ba rfl
          simp [keys] at e
          rcases e with rfl | rfl | rfl | rfl
          · exact h1.2 hc
          all_goals omega
        · refine .inr ⟨ba, 0, some 3, γ.arcs.length, by simp [turnG], by simp [turnG], ?_⟩
          rw [row.load (by rw [flatMap_len encA_len]; simp [turnG])]
          have e : (turnG γ).arcs.length * 3 = (List.flatMap encA (List.map turn γ.arcs)).length := by rw [flatMap_len encA_len]; rfl
          rw [e, List.drop_zero, List.take_length]; rfl
    · exact ⟨Nat.zero_le _, S, by simp [setR, ptr_eq], by simp [setR, ptr_eq], by simp [setR, ptr_eq], by simp [setR]⟩
end Go.Ab

end
section
namespace Go.Ab
open Go.Proofs
set_option maxRecDepth 10000
open Tryz in
def Tryz.FFrl337 := aj a1 <| aj s1 <| aj z1 <| aj n1 <| aj u2 <| aj a2 <| aj s2 <| aj z2 <| aj i2 <| aj u3 <| aj a3 <| aj s3 <| aj z3 <| aj i3 <| aj u4 <| aj a4 <| aj s4 <| aj z4 <| aj n4 <| aj u5 <| aj a5 <| aj s5 <| aj z5 <| aj i5 <| aj u6 <| aj a6 <| aj s6 <| aj z6 <| aj i6 <| aj a7 <| aj s7 <| aj z7 <| aj i7 <| aj n7 <| aj p7 <| aj ff7 <| aj d7 <| aj a8 <| aj s8 <| aj z8 <| aj i8 <| aj n8 <| aj p8 <| aj ff8 <| aj d8 <| aj u9 <| aj a9 <| aj s9 <| aj z9 <| aj n9 <| aj u10 <| aj a10 <| aj s10 <| aj z10 <| aj n10 <| aj u11 <| aj a11 <| aj s11 <| aj z11 <| aj n11 <| aj u12 <| aj a12 <| aj s12 <| aj z12 <| aj i12 <| aj a13 <| aj s13 <| aj z13 <| aj i13 <| aj n13 <| aj p13 <| aj ff13 <| aj d13 <| aj u31 <| aj a31 <| aj s31 <| aj z31 <| aj q31 <| n31
open Tryz in
def Tryz.FFrl341 := aj a1 <| aj s1 <| aj z1 <| aj n1 <| aj u2 <| aj a2 <| aj s2 <| aj z2 <| aj i2 <| aj u3 <| aj a3 <| aj s3 <| aj z3 <| aj i3 <| aj u4 <| aj a4 <| aj s4 <| aj z4 <| aj n4 <| aj u5 <| aj a5 <| aj s5 <| aj z5 <| aj i5 <| aj u6 <| aj a6 <| aj s6 <| aj z6 <| aj i6 <| aj a7 <| aj s7 <| aj z7 <| aj i7 <| aj n7 <| aj p7 <| aj ff7 <| aj d7 <| aj a8 <| aj s8 <| aj z8 <| aj i8 <| aj n8 <| aj p8 <| aj ff8 <| aj d8 <| aj u31 <| aj a31 <| aj s31 <| aj z31 <| aj q31 <| n31
open Tryz in
def Tryz.FFrl342 := aj a1 <| aj s1 <| aj z1 <| aj n1 <| aj u2 <| aj a2 <| aj s2 <| aj z2 <| aj i2 <| aj u3 <| aj a3 <| aj s3 <| aj z3 <| aj i3 <| aj u4 <| aj a4 <| aj s4 <| aj z4 <| aj n4 <| aj u5 <| aj a5 <| aj s5 <| aj z5 <| aj i5 <| aj u6 <| aj a6 <| aj s6 <| aj z6 <| aj i6 <| aj a7 <| aj s7 <| aj z7 <| aj i7 <| aj n7 <| aj p7 <| aj ff7 <| aj d7 <| aj a8 <| aj s8 <| aj z8 <| aj i8 <| aj n8 <| aj p8 <| aj ff8 <| aj d8 <| aj u9 <| aj a9 <| aj s9 <| aj z9 <| aj n9 <| aj u10 <| aj a10 <| aj s10 <| aj z10 <| aj n10 <| aj u11 <| aj a11 <| aj s11 <| aj z11 <| aj n11 <| aj u12 <| aj a12 <| aj s12 <| aj z12 <| aj i12 <| aj a13 <| aj s13 <| aj z13 <| aj i13 <| aj n13 <| aj p13 <| aj ff13 <| aj d13 <| aj u24 <| aj a24 <| aj s24 <| aj z24 <| aj q24 <| aj n24 <| aj u34 <| aj a34 <| aj s34 <| aj z34 <| aj q34 <| n34
theorem okAt_take {N : Nat} {l : List Int} {i : Nat} (hi : i < l.length) : OkAt N l i ↔ 0 ≤ l[i] ∧ l[i] < N ∧ ∀ k, k < i → l.getD k 0 ≠ l[i] := by
  have gd : l.getD i 0 = l[i] := by simp [List.getD_eq_getElem?_getD, hi]
  unfold OkAt
  rw [gd]
  refine and_congr Iff.rfl (and_congr Iff.rfl ⟨fun h k hk e => h ?_, fun h hm => ?_⟩)
  · refine List.mem_iff_getElem.2 ⟨k, by rw [List.length_take]; omega, ?_⟩
    rw [List.getElem_take, ← e]
    simp [List.getD_eq_getElem?_getD, show k < l.length by omega]
  · obtain ⟨k, hk, e⟩ := List.mem_iff_getElem.1 hm
    rw [List.length_take] at hk
    refine h k (by omega) ?_
    rw [← e, List.getElem_take]
    simp [List.getD_eq_getElem?_getD, show k < l.length by omega]
theorem refMay_ok {h0 : Hp} (ok : h0.t.Sized h0.n) {v : Value} {l : List Int} {N : Nat} (hv : SlAt h0 1 (encI .i64) v l) (hl : l.length ≤ 1000) : Pure Tryz.abEnv 37 [.int .i64 N, v] h0 (.bool (decide (MayL N l))) := by
  have S := St.init (M := NoM) ok
  by_cases h16 : 16 < l.length
  · have c : (16 : Int) < (l.length : Int) := by omega
    have hn : ¬ MayL N l := fun h => by have := h.1; omega
    refine enter_ret (n := 43) (rs := [.tmp 4]) rfl Tryz.e37 rfl rfl rfl (lbt rfl) ?_
    simp only [BS, LB, tupleOf, Nat.reduceLT, Nat.reduceEqDiff, Tryz.FFrl337, hv.lenq, c]
    exact ⟨by rw [decide_eq_false hn], S.gr⟩
  have c : ¬ (16 : Int) < (l.length : Int) := by omega
  refine enter_ret (n := 43) (rs := [.tmp 4]) rfl Tryz.e37 rfl rfl rfl (lbt rfl) ?_
  simp only [BS, LB, Nat.reduceLT, Nat.reduceEqDiff, Tryz.FFrl337, hv.lenq, c]
  refine loop_ind (fun (i : Nat) ρ h => i ≤ l.length ∧ Gr h0 h ∧ (∀ j, j < i → OkAt N l j) ∧ ρ 0 = .int .i64 N ∧ ρ 1 = v ∧ ρ 5 = .int .i64 i) (fun i => l.length - i) ?_ 0 _ _ ?_
  · clear S
    intro i ih ρ h ⟨hi, S, hok, r0, r1, r5⟩
    have w : wrapI .i64 ((i : Int) + 1) = ((i + 1 : Nat) : Int) := by rw [wrap64] <;> omega
    by_cases hlt : i < l.length
    · obtain ⟨q, o, hidx, hld⟩ := (hv.gr S).ix (kd := .i64) (encI_len .i64) hlt
      have iff := okAt_take (N := N) hlt
      have bad : ¬ OkAt N l i → decide (MayL N l) = false := fun h => decide_eq_false fun hm => h (hm.2 i hlt)
      obtain ⟨x, ex⟩ : ∃ x, l[i] = x := ⟨_, rfl⟩
      rw [ex] at hld iff
      by_cases c1 : x < 0
      · have hd := bad (fun h => by have := (iff.1 h).1; omega)
        simp only [BS, LB, tupleOf, Nat.reduceLT, Nat.reduceEqDiff, Tryz.FFrl337, r1, r5, hv.lenq, lt_nat, hlt, hidx, hld, encI, c1, hd]
        exact S
      by_cases c2 : (N : Int) ≤ x
      · have hd := bad (fun h => by have := (iff.1 h).2.1; omega)
        simp only [BS, LB, tupleOf, Nat.reduceLT, Nat.reduceEqDiff, Tryz.FFrl337, r0, r1, r5, hv.lenq, lt_nat, hlt, hidx, hld, encI, c1, c2, hd]
        exact S
      simp only [BS, LB, Nat.reduceLT, Nat.reduceEqDiff, Tryz.FFrl337, r0, r1, r5, hv.lenq, lt_nat, hlt, hidx, hld, encI, c1, c2]
      refine loop_ind (fun (k : Nat) ρ h => k ≤ i ∧ Gr h0 h ∧ (∀ j, j < k → l.getD j 0 ≠ x) ∧ ρ 0 = .int .i64 N ∧ ρ 1 = v ∧ ρ 5 = .int .i64 i ∧ ρ 6 = .int .i64 k) (fun k => i - k) ?_ 0 _ _ ?_
      · clear r0 r1 r5 hidx hld S
        intro k ihk ρ h ⟨hk, S, hne, r0, r1, r5, r6⟩
        have wk : wrapI .i64 ((k : Int) + 1) = ((k + 1 : Nat) : Int) := by rw [wrap64] <;> omega
        by_cases hkt : k < i
        · obtain ⟨q, o, hidx, hld⟩ := (hv.gr S).ix (kd := .i64) (encI_len .i64) hlt
          rw [ex] at hld
          obtain ⟨q2, o2, hidx2, hld2⟩ := (hv.gr S).ix (kd := .i64) (encI_len .i64) (i := k) (by omega)
          have gk : l.getD k 0 = l[k] := by simp [List.getD_eq_getElem?_getD, show k < l.length by omega]
          rw [← gk] at hld2
          by_cases he : l.getD k 0 = x
          · have hd := bad (fun h => (iff.1 h).2.2 k hkt he)
            simp only [BS, LB, Nat.reduceLT, Nat.reduceEqDiff, r5, r6, lt_nat, hkt]
            refine draw_step (hoist_no rfl) (q := 0) (ps := []) (by kernel_rfl) ?_
            simp only [BS, LB, cls, tupleOf, Nat.reduceLT, Nat.reduceEqDiff, Nat.reduceAdd, Nat.reducePow, Nat.reduceDiv, Nat.reduceMod, Nat.reduceLeDiff, Tryz.FFrl337, r1, r5, r6, hidx, hld, hidx2, hld2, encI, he, hd]
            exact S
          · simp only [BS, LB, Nat.reduceLT, Nat.reduceEqDiff, r5, r6, lt_nat, hkt]
            refine draw_step (hoist_no rfl) (q := 0) (ps := []) (by kernel_rfl) ?_
            simp only [BS, LB, cls, Nat.reduceLT, Nat.reduceEqDiff, Nat.reduceAdd, Nat.reducePow, Nat.reduceDiv, Nat.reduceMod, Nat.reduceLeDiff, Tryz.FFrl337, r1, r5, r6, hidx, hld, hidx2, hld2, encI, he, wk]
            refine ihk (k + 1) _ _ (by omega) ⟨by omega, S, fun j hj => ?_, by simp [setR, r0], by simp [setR, r1], by simp [setR, r5], by simp [setR]⟩
            by_cases e : j = k
            · rw [e]; exact he
            · exact hne j (by omega)
        · simp only [BS, LB, tupleOf, Nat.reduceLT, Nat.reduceEqDiff, r5, r6, lt_nat, hkt, w]
          refine ih (i + 1) _ _ (by omega) ⟨by omega, S, fun j hj => ?_, by simp [setR, r0], by simp [setR, r1], by simp [setR]⟩
          by_cases e : j = i
          · subst e; exact iff.2 ⟨by omega, by omega, fun a ha => hne a (by omega)⟩
          · exact hok j (by omega)
      · exact ⟨Nat.zero_le _, S, fun j hj => by omega, by simp [setR, r0], by simp [setR, r1], by simp [setR, r5], by simp [setR]⟩
    · have hm : MayL N l := ⟨by omega, fun j hj => hok j (by omega)⟩
      simp only [BS, LB, tupleOf, Nat.reduceLT, Nat.reduceEqDiff, Tryz.FFrl337, r1, r5, hv.lenq, lt_nat, hlt]
      exact ⟨by rw [decide_eq_true hm], S⟩
  · exact ⟨Nat.zero_le _, S.gr, fun j hj => by omega, by simp [setR, argR_zero], by simp [setR, argR_zero, argR_succ], by simp [setR]⟩
theorem refInts_ok {h0 : Hp} (ok : h0.t.Sized h0.n) {u v : Value} {l m : List Int} (hu : SlAt h0 1 (encI .i64) u l) (hv : SlAt h0 1 (encI .i64) v m) (hl : l.length < 1000000) : Pure Tryz.abEnv 41 [u, v] h0 (.bool (decide (l = m))) := by
  have S := St.init (M := NoM) ok
  by_cases hlen : l.length = m.length
  · have hle : ((l.length : Int) = (m.length : Int)) := by omega
    refine enter_ret (n := 26) (rs := [.tmp 4]) rfl Tryz.e41 rfl rfl rfl (lbt rfl) ?_
    simp only [BS, LB, Nat.reduceLT, Nat.reduceEqDiff, Tryz.FFrl341, hu.lenq, hv.lenq, hle]
    refine loop_ind (fun (i : Nat) ρ h => i ≤ l.length ∧ l.take i = m.take i ∧ Gr h0 h ∧ ρ 0 = u ∧ ρ 1 = v ∧ ρ 5 = .int .i64 i) (fun i => l.length - i) ?_ 0 _ _ ?_
    · clear S
      intro i ih ρ h ⟨hi, ht, S, r0, r1, r5⟩
      by_cases hlt : i < l.length
      · obtain ⟨c, o, hidx, hld⟩ := (hu.gr S).ix (kd := .i64) (encI_len .i64) hlt
        obtain ⟨c2, o2, hidx2, hld2⟩ := (hv.gr S).ix (kd := .i64) (encI_len .i64) (hlen ▸ hlt)
        have w : wrapI .i64 ((i : Int) + 1) = ((i + 1 : Nat) : Int) := by rw [wrap64] <;> omega
        by_cases he : l[i] = m[i]
        · simp only [BS, LB, Nat.reduceLT, Nat.reduceEqDiff, Tryz.FFrl341, r0, r5, hu.lenq, lt_nat, hlt]
          refine draw_step (hoist_no rfl) (q := 0) (ps := []) (by kernel_rfl) ?_
          simp only [BS, LB, cls, Nat.reduceLT, Nat.reduceEqDiff, Nat.reduceAdd, Nat.reducePow, Nat.reduceDiv, Nat.reduceMod, Nat.reduceLeDiff, Tryz.FFrl341, r0, r1, r5, hidx, hld, hidx2, hld2, encI, he, w]
          refine ih (i + 1) _ _ (by omega) ⟨by omega, ?_, S, by simp [setR, r0], by simp [setR, r1], by simp [setR]⟩
          rw [List.take_succ_eq_append_getElem hlt, List.take_succ_eq_append_getElem (hlen ▸ hlt), ht, he]
        · have hne : l ≠ m := by rintro rfl; exact he rfl
          simp only [BS, LB, Nat.reduceLT, Nat.reduceEqDiff, Tryz.FFrl341, r0, r5, hu.lenq, lt_nat, hlt]
          refine draw_step (hoist_no rfl) (q := 0) (ps := []) (by kernel_rfl) ?_
          simp only [BS, LB, cls, tupleOf, Nat.reduceLT, Nat.reduceEqDiff, Nat.reduceAdd, Nat.reducePow, Nat.reduceDiv, Nat.reduceMod, Nat.reduceLeDiff, Tryz.FFrl341, r0, r1, r5, hidx, hld, hidx2, hld2, encI, he, hne]
          exact S
      · have hE : l = m := by
          have e1 : l.take i = l := List.take_of_length_le (by omega)
          have e2 : m.take i = m := List.take_of_length_le (by omega)
          rw [e1, e2] at ht; exact ht
        subst hE
        simp only [BS, LB, tupleOf, Nat.reduceLT, Nat.reduceEqDiff, Tryz.FFrl341, r0, r5, hu.lenq, lt_nat, hlt]
        exact S
    · exact ⟨Nat.zero_le _, rfl, Gr.refl ok, by simp [setR, argR_zero], by simp [setR, argR_zero, argR_succ], by simp [setR]⟩
  · have hne : l ≠ m := by rintro rfl; exact hlen rfl
    have hle : ¬ ((l.length : Int) = (m.length : Int)) := by omega
    refine enter_ret (n := 26) (rs := [.tmp 4]) rfl Tryz.e41 rfl rfl rfl (lbt rfl) ?_
    simp only [BS, LB, tupleOf, Nat.reduceLT, Nat.reduceEqDiff, Tryz.FFrl341, hu.lenq, hv.lenq, hle, hne]
    exact S.gr
theorem refSame_ok {h0 : Hp} (ok : h0.t.Sized h0.n) {u v : Value} {n m m' : Nat} {R : Nat → List Int} (hu : LLAt h0 m u n R) (hv : LLAt h0 m' v n R) (hn : n < 1000) (hR : ∀ i, i < n → (R i).length < 1000000) : Pure Tryz.abEnv 42 [u, v] h0 (.bool true) := by
  have S := St.init (M := NoM) ok
  refine enter_ret (n := 53) (rs := [.tmp 4]) rfl Tryz.e42 rfl rfl rfl (lbt rfl) ?_
  simp only [BS, LB, Nat.reduceLT, Nat.reduceEqDiff, Tryz.FFrl342, hu.lenq, hv.lenq]
  refine loop_ind (fun (i : Nat) ρ h => i ≤ n ∧ Gr h0 h ∧ ρ 0 = u ∧ ρ 1 = v ∧ ρ 5 = .int .i64 i) (fun i => n - i) ?_ 0 _ _ ?_
  · clear S
    intro i ih ρ h ⟨hi, S, r0, r1, r5⟩
    have w : wrapI .i64 ((i : Int) + 1) = ((i + 1 : Nat) : Int) := by rw [wrap64] <;> omega
    by_cases hlt : i < n
    · obtain ⟨x, ⟨c, o, hidx, hld⟩, hx, _⟩ := (hu.gr S).row hlt
      obtain ⟨y, ⟨c2, o2, hidx2, hld2⟩, hy, _⟩ := (hv.gr S).row hlt
      have fx := hx.fl
      have fy := hy.fl
      simp only [BS, LB, Nat.reduceLT, Nat.reduceEqDiff, Tryz.FFrl342, r0, r5, hu.lenq, lt_nat, hlt]
      refine draw_step (hoist_no rfl) (q := 0) (ps := []) (by kernel_rfl) ?_
      simp only [BS, LB, cls, Nat.reduceLT, Nat.reduceEqDiff, Nat.reduceAdd, Nat.reducePow, Nat.reduceDiv, Nat.reduceMod, Nat.reduceLeDiff, Tryz.FFrl342, r0, r1, r5, hidx, hld, hidx2, hld2, hx.lenq, hy.lenq]
      refine loop_ind (fun (k : Nat) ρ h' => k ≤ (R i).length ∧ Gr h h' ∧ ρ 0 = u ∧ ρ 1 = v ∧ ρ 5 = .int .i64 i ∧ ρ 6 = .int .i64 k) (fun k => (R i).length - k) ?_ 0 _ _ ?_
      · clear r0 r1 r5
        intro k ihk ρ h' ⟨hk, g, r0, r1, r5, r6⟩
        have wk : wrapI .i64 ((k : Int) + 1) = ((k + 1 : Nat) : Int) := by have := hR i hlt; rw [wrap64] <;> omega
        have ld := g.load hld
        have ld2 := g.load hld2
        by_cases hkt : k < (R i).length
        · obtain ⟨q, p, hi1, hl1⟩ := (hx.gr g).ix (kd := .i64) (encI_len .i64) hkt
          obtain ⟨q2, p2, hi2, hl2⟩ := (hy.gr g).ix (kd := .i64) (encI_len .i64) hkt
          simp only [BS, LB, Nat.reduceLT, Nat.reduceEqDiff, Tryz.FFrl342, r0, r5, r6, hidx, ld, hx.lenq, lt_nat, hkt]
          refine draw_step (hoist_no rfl) (q := 0) (ps := []) (by kernel_rfl) ?_
          simp only [BS, LB, cls, Nat.reduceLT, Nat.reduceEqDiff, Nat.reduceAdd, Nat.reducePow, Nat.reduceDiv, Nat.reduceMod, Nat.reduceLeDiff, Tryz.FFrl342, r0, r1, r5, r6, hidx, ld, hidx2, ld2, hi1, hl1, hi2, hl2, encI, wk]
          exact ihk (k + 1) _ _ (by omega) ⟨by omega, g, by simp [setR, r0], by simp [setR, r1], by simp [setR, r5], by simp [setR]⟩
        · simp only [BS, LB, tupleOf, Nat.reduceLT, Nat.reduceEqDiff, Tryz.FFrl342, r0, r5, r6, hidx, ld, hx.lenq, lt_nat, hkt, w]
          exact ih (i + 1) _ _ (by omega) ⟨by omega, S.trans g, by simp [setR, r0], by simp [setR, r1], by simp [setR]⟩
      · exact ⟨Nat.zero_le _, Gr.refl S.ok, by simp [setR, r0], by simp [setR, r1], by simp [setR, r5], by simp [setR]⟩
    · simp only [BS, LB, tupleOf, Nat.reduceLT, Nat.reduceEqDiff, Tryz.FFrl342, r0, r5, hu.lenq, lt_nat, hlt]
      exact S
  · exact ⟨Nat.zero_le _, Gr.refl ok, by simp [setR, argR_zero], by simp [setR, argR_zero, argR_succ], by simp [setR]⟩
end Go.Ab

end
section
namespace Go.Ab
open Go.Proofs
set_option maxRecDepth 10000
open Tryz in
def Tryz.FFrl411 := aj a1 <| aj s1 <| aj z1 <| aj n1 <| aj u2 <| aj a2 <| aj s2 <| aj z2 <| aj i2 <| aj u3 <| aj a3 <| aj s3 <| aj z3 <| aj i3 <| aj u4 <| aj a4 <| aj s4 <| aj z4 <| aj n4 <| aj u5 <| aj a5 <| aj s5 <| aj z5 <| aj i5 <| aj u6 <| aj a6 <| aj s6 <| aj z6 <| aj i6 <| aj a7 <| aj s7 <| aj z7 <| aj i7 <| aj n7 <| aj p7 <| aj ff7 <| aj d7 <| aj a8 <| aj s8 <| aj z8 <| aj i8 <| aj n8 <| aj p8 <| aj ff8 <| aj d8 <| aj u9 <| aj a9 <| aj s9 <| aj z9 <| aj n9 <| aj u24 <| aj a24 <| aj s24 <| aj z24 <| aj q24 <| aj n24 <| aj u25 <| aj a25 <| aj s25 <| aj z25 <| aj q25 <| aj n25 <| aj a27 <| aj s27 <| aj z27 <| aj i27 <| aj n27 <| aj p27 <| aj ff27 <| aj d27 <| aj u31 <| aj a31 <| aj s31 <| aj z31 <| aj q31 <| aj n31 <| aj u34 <| aj a34 <| aj s34 <| aj z34 <| aj q34 <| aj n34 <| aj a36 <| aj s36 <| aj z36 <| aj i36 <| aj n36 <| aj p36 <| aj ff36 <| aj d36 <| aj a51 <| aj s51 <| aj z51 <| aj i51 <| aj n51 <| aj p51 <| aj ff51 <| d51
def RowsIn (h : Hp) (m : Nat) (K : List Nat) (ws : List Value) (R : Nat → List Int) : Prop := ∀ (j : Nat) w, ws[j]? = some w → SlAt h 1 (encI .i64) w (R j) ∧ ∀ c, blkOf w c → m ≤ c ∧ c ∉ K
theorem RowsIn.gr {h h' : Hp} {m : Nat} {K : List Nat} {ws : List Value} {R : Nat → List Int} (r : RowsIn h m K ws R) (g : Gr h h') : RowsIn h' m K ws R := fun j w hw => ⟨(r j w hw).1.gr g, (r j w hw).2⟩
theorem RowsIn.push {h : Hp} {m : Nat} {K : List Nat} {ws : List Value} {R : Nat → List Int} {y : Value} (r : RowsIn h m K ws R) (hy : SlAt h 1 (encI .i64) y (R ws.length)) (hc : ∀ c, blkOf y c → m ≤ c ∧ c ∉ K) : RowsIn h m K (ws ++ [y]) R := fun j w hw => by
  rcases get_snoc hw with hw | ⟨rfl, rfl⟩
  · exact r j w hw
  · exact ⟨hy, hc⟩
theorem RowsIn.step {h h' : Hp} {m : Nat} {L L' : List (Nat × Ob)} {G G' : List GL} {ws : List Value} {R : Nat → List Int} (r : RowsIn h m (keys L G) ws R) (T : St (· ∈ keys L G) h h' L' G') : RowsIn h' m (keys L' G') ws R := fun j w hw => by
  obtain ⟨a, b⟩ := r j w hw
  refine ⟨a.mo T.fr (fun c hc => (b c hc).2), fun c hc => ⟨(b c hc).1, fun hk => ?_⟩⟩
  rcases T.key_new c hk with h1 | h1
  · exact (b c hc).2 h1
  · have := a.lt T.fr.ok0 hc; omega
theorem turn_good {γ : Gra} (h : Good γ) : Good (turnG γ) :=
  ⟨h.n1, h.n2, h.lX, h.lY, h.cX, h.cY, by simpa [turnG] using h.many, fun a ha => by
    obtain ⟨b, hb, rfl⟩ := List.mem_map.1 ha
    obtain ⟨x, y, z⟩ := h.arcs b hb
    exact ⟨y, x, z⟩⟩
theorem seen_self (γ : Gra) : seen γ.arcs Arc.s Arc.t = γ.arcs := by
  unfold seen
  exact (List.map_congr_left (fun a _ => rfl)).trans (List.map_id _)
theorem refOf_ok {h0 : Hp} (ok : h0.t.Sized h0.n) {γ : Gra} (hγ : Good γ) {vx vy va : Value} (ga : GraphAt h0 vx vy va γ) {vl : Value} {l : List Int} (hv : SlAt h0 1 (encI .i64) vl l) (hl : l.length ≤ 1000)
    (eT : ∀ {s : Nat}, s < γ.nodes → ∀ v, IsD (seen γ.arcs Arc.t Arc.s) s v (dOf (seen γ.arcs Arc.t Arc.s) s v)) (eF : ∀ {s : Nat}, s < γ.nodes → ∀ v, IsD (seen γ.arcs Arc.s Arc.t) s v (dOf (seen γ.arcs Arc.s Arc.t) s v)) :
    Ret Tryz.abEnv 11 [rawV γ vx vy va, vl] h0 fun r h' => Gr h0 h' ∧ ((¬ MayL γ.nodes l ∧ r = .tuple #[.agg ⟨[.slice none 0 0, .slice none 0 0, .slice none 0 0]⟩, .bool false]) ∨ (MayL γ.nodes l ∧ ∃ vT vF, r = .tuple #[.agg ⟨[vl, vT, vF]⟩, .bool true] ∧ LLAt h' h0.n vT l.length (toR γ l) ∧ LLAt h' h0.n vF l.length (frR γ l))) := by
  have S := St.init (M := NoM) ok
  have fx := ga.X.fl
  have fy := ga.Y.fl
  have fa := ga.A.fl
  have fl := hv.fl
  obtain ⟨la, ln, lc, rfl⟩ := hv.form
  refine enter_ret (n := 46) (rs := [.cell 4 36, .tmp 5]) rfl Tryz.e11 rfl rfl rfl (lbt rfl) ?_
  simp only [BS, Nat.reduceLT, rawV]
  refine step_newS (box_new (by intro x e; cases e)) S ?_; clear S; intro h b2 S n_b2; simp only [vcells] at S
  simp only [BS, Tryz.FFrl411]
  refine step_newS allocR_new S ?_; clear S; intro h b4 S n_b4
  simp only [BS, LB, Nat.reduceLT, Nat.reduceEqDiff, Tryz.FFrl411, S.ld (b := b2) (o := 0) (by repeat constructor) rfl]
  refine step_pure (refMay_ok S.ok (hv.gr S.gr) hl) ?_; intro h g; replace S := S.call g; clear g
  by_cases hm : MayL γ.nodes l
  · have hd : decide (MayL γ.nodes l) = true := decide_eq_true hm
    simp only [BS, LB, Nat.reduceLT, Nat.reduceEqDiff, Nat.reduceAdd, Tryz.FFrl411, hd]
    refine step_newS allocR_new S ?_; clear S; intro h b6 S n_b6
    simp only [BS, LB, Nat.reduceLT, Nat.reduceEqDiff]
    refine step_u (S.store (i := 0) rfl Tryz.s36 (by intro x e; cases e) rfl rfl (lbt rfl) ono) ?_
    clear S; rintro h ⟨S, _⟩
    simp only [List.set_cons_zero, List.set_cons_succ, vcells, lay, List.take, List.drop, List.nil_append, List.cons_append, List.append_nil, List.length_cons, List.length_nil, Nat.reduceAdd, Nat.add_zero] at S
    simp only [BS]
    replace S := S.nilG (k := 1)
    replace S := S.nilG (k := 1)
    refine loop_ind (fun (i : Nat) ρ h => i ≤ l.length ∧ ∃ (wT wF : List Value) (vT vF : Value), St NoM h0 h [(b6, .row [.slice la ln lc, vT, vF] 1), (b4, .row [.slice none 0 0, .slice none 0 0, .slice none 0 0] 1), (b2, .row [.int .i64 γ.nodes, vx, vy, va] 1)] [(vT, 1, wT), (vF, 1, wF)] ∧ wT.length = i ∧ wF.length = i ∧
      RowsIn h h0.n (keys [(b6, .row [.slice la ln lc, vT, vF] 1), (b4, .row [.slice none 0 0, .slice none 0 0, .slice none 0 0] 1), (b2, .row [.int .i64 γ.nodes, vx, vy, va] 1)] [(vT, 1, wT), (vF, 1, wF)]) wT (toR γ l) ∧
      RowsIn h h0.n (keys [(b6, .row [.slice la ln lc, vT, vF] 1), (b4, .row [.slice none 0 0, .slice none 0 0, .slice none 0 0] 1), (b2, .row [.int .i64 γ.nodes, vx, vy, va] 1)] [(vT, 1, wT), (vF, 1, wF)]) wF (frR γ l) ∧
      ρ 1 = .slice la ln lc ∧ ρ 2 = ptrTo b2 ∧ ρ 4 = ptrTo b4 ∧ ρ 6 = ptrTo b6 ∧ ρ 7 = .int .i64 i) (fun i => l.length - i) ?_ 0 _ _ ?_
    · clear S
      intro i ih ρ h ⟨hi, wT, wF, vT, vF, S, nT, nF, RT, RF, r1, r2, r4, r6, r7⟩
      have w : wrapI .i64 ((i : Int) + 1) = ((i + 1 : Nat) : Int) := by rw [wrap64] <;> omega
      have fvT : Fl vT := by
        rcases (S.gown _ m0).1 with ⟨e, _⟩ | ⟨_, _, e, _⟩
        · rw [show vT = _ from e]; exact fl_slice
        · rw [show vT = _ from e]; exact fl_slice
      have fvF : Fl vF := by
        rcases (S.gown _ m1).1 with ⟨e, _⟩ | ⟨_, _, e, _⟩
        · rw [show vF = _ from e]; exact fl_slice
        · rw [show vF = _ from e]; exact fl_slice
      by_cases hlt : i < l.length
      · obtain ⟨q, o, hidx, hld⟩ := (hv.gr S.gr).ix (kd := .i64) (encI_len .i64) hlt
        have gd : l.getD i 0 = l[i] := by simp [List.getD_eq_getElem?_getD, hlt]
        have hsb := hm.2 i hlt
        obtain ⟨s, es⟩ : ∃ s : Nat, l.getD i 0 = s := ⟨(l.getD i 0).toNat, by omega⟩
        rw [← gd, es] at hld
        rw [es] at hsb
        have hsN : s < γ.nodes := by omega
        have tR : toR γ l i = rowD (turnG γ).arcs (turnG γ).nodes s := by unfold toR; rw [es, Int.toNat_natCast]; rfl
        have fR : frR γ l i = rowD γ.arcs γ.nodes s := by unfold frR; rw [es, Int.toNat_natCast, seen_self]
        have lq := lt_of_load S.ok hld
        have l6 := (S.row (b := b6) m0).lt S.ok
        have kK := fun c (hc : c ∈ keys _ _) => S.key_lt hc
        have iN := S.fr.n
        simp only [BS, LB, Nat.reduceLT, Nat.reduceEqDiff, Tryz.FFrl411, r1, r7, hv.lenq, lt_nat, hlt]
        refine draw_step (hoist_no rfl) (q := 512) (ps := [(1, 8), (3, 7), (1, 3)]) (by kernel_rfl) ?_
        simp only [BS, LB, cls, Nat.reduceLT, Nat.reduceEqDiff, Nat.reduceAdd, Nat.reducePow, Nat.reduceDiv, Nat.reduceMod, Nat.reduceLeDiff, Tryz.FFrl411, r2, r6, List.drop_zero, List.take_succ_cons, List.take_zero, S.ld (b := b6) (o := 1) (by repeat constructor) rfl, S.lds (b := b2) (o := 0) (n := 4) (by repeat constructor) (lbt rfl)]
        have td := turned_ok S.ok hγ (ga.gr S.gr)
        unfold rawV at td
        refine dn_ret td ?_
        rintro r h ⟨g, vx', vy', va', er, ga'⟩
        subst er
        have p1 : leaves _ _ q = true := leaves_gr g lq
        have p2 : leaves _ _ b6 = true := leaves_gr g l6
        have g1 := g.n
        replace S := S.call g; replace RT := RT.gr g; replace RF := RF.gr g; replace hld := g.load hld; clear g
        simp only [BS, LB, cls, Nat.reduceLT, Nat.reduceEqDiff, Nat.reduceAdd, Nat.reducePow, Nat.reduceDiv, Nat.reduceMod, Nat.reduceLeDiff, Tryz.FFrl411, r1, r7, hidx, hld, encI]
        have ls := least_ok S.ok (turn_good hγ) ga' (s := s) hsN (fun v _ => eT hsN v)
        unfold rawV at ls
        refine dn_ret ls ?_
        rintro y h ⟨g, sy, ny⟩
        have p3 : leaves _ _ q = true := leaves_gr g (Nat.lt_of_lt_of_le lq g1)
        have p4 : leaves _ _ b6 = true := leaves_gr g (Nat.lt_of_lt_of_le l6 g1)
        replace S := S.call g; replace RT := RT.gr g; replace RF := RF.gr g; replace hld := g.load hld; clear g
        obtain ⟨ya, yn, yc, rfl⟩ := sy.form
        have fy1 : Fl (.slice ya yn yc) := fl_slice
        rw [← tR] at sy
        have RT1 := RT.push (by rw [nT]; exact sy) (fun c hc => ⟨by have := ny c hc; omega, fun hk => by have := ny c hc; have := kK c hk; omega⟩)
        have S1 := S
        replace S := S1.base
        simp only [BS, LB, cls, Nat.reduceLT, Nat.reduceEqDiff, Nat.reduceAdd, Nat.reducePow, Nat.reduceDiv, Nat.reduceMod, Nat.reduceLeDiff]
        refine dq_newS (bs_new (by first | exact Tryz.u24 | exact Tryz.u25 | exact Tryz.u31 | exact Tryz.u34) (by first | exact Tryz.e2E | exact Tryz.e3E | exact Tryz.e24E | exact Tryz.e51E) (by decide) (by first | rfl | exact fillE )) S ?_; clear S; intro h bt S n_bt e_bt; simp only [repL, setL, vcells, List.cons_append, List.nil_append, List.append_nil, List.set_cons_zero, List.set_cons_succ, Nat.reduceMul, Nat.reduceAdd, Nat.zero_mul, Nat.zero_add, Nat.mul_one, Nat.one_mul] at S
        simp only [BS, LB, cls, Nat.reduceLT, Nat.reduceEqDiff, Nat.reduceAdd, Nat.reducePow, Nat.reduceDiv, Nat.reduceMod, Nat.reduceLeDiff]
        have src : srcCells h 1 (.slice (some ⟨bt, 0, none⟩) 1 1) = some (1, [.slice ya yn yc]) := by simp only [srcCells]; rw [S.lds (b := bt) (o := 0) (n := 1 * 1) m0 (lbt rfl)]; rfl
        replace S := S.drop1
        refine dn_v (S.grow (j := 0) (m := 1) (new := [.slice ya yn yc]) rfl Tryz.u34 Tryz.e24E (by decide) Tryz.n34 src rfl (by decide) (by simp [fy1.2.1]) (by simp; omega)) ?_
        clear S src; rintro h vT' S
        simp only [List.set_cons_zero] at S
        have fv : Fl vT' := by
          rcases (S.gown _ m0).1 with ⟨e, _⟩ | ⟨_, _, e, _⟩
          · rw [show vT' = _ from e]; exact fl_slice
          · rw [show vT' = _ from e]; exact fl_slice
        simp only [BS, LB, cls, Nat.reduceLT, Nat.reduceEqDiff, Nat.reduceAdd, Nat.reducePow, Nat.reduceDiv, Nat.reduceMod, Nat.reduceLeDiff, Tryz.FFrl411, r6]
        refine dn_u (store_fl S (i := 0) rfl Tryz.s34 fv (Nat.lt_of_succ_le (lbt rfl)) ono) ?_
        clear S; rintro h ⟨S, _⟩
        simp only [List.set_cons_zero, List.set_cons_succ] at S
        replace RT := RT1.step S
        replace RF := RF.step S
        replace S := S1.rebase S
        clear S1 RT1 fvT ny sy kK
        simp only [BS, Nat.reduceAdd]
        refine ⟨by simp only [pairs_cons, pairs_nil, entry_noted, entry_hit, entry_miss, ne_eq, not_false_eq_true, note_load, note_run, note_alloc, noted_some, ll_tmp, ll_put, setR_at, Nat.reduceLT, Nat.reduceEqDiff, reduceIte, Bool.and_true, r1, r2, r4, r6, r7, ptr_eq, pair_br p1, pair_rb p1, pair_br p2, pair_rb p2, pair_br p3, pair_rb p3, pair_br p4, pair_rb p4], ?_⟩
        clear hidx hld lq l6 p1 p2 p3 p4
        obtain ⟨q, o, hidx, hld⟩ := (hv.gr S.gr).ix (kd := .i64) (encI_len .i64) hlt
        rw [← gd, es] at hld
        have lq := lt_of_load S.ok hld
        have l6 := (S.row (b := b6) m0).lt S.ok
        have kK := fun c (hc : c ∈ keys _ _) => S.key_lt hc
        have iN := S.fr.n
        refine draw_step (hoist_no rfl) (q := 256) (ps := [(1, 7)]) (by kernel_rfl) ?_
        simp only [BS, LB, cls, Nat.reduceLT, Nat.reduceEqDiff, Nat.reduceAdd, Nat.reducePow, Nat.reduceDiv, Nat.reduceMod, Nat.reduceLeDiff, Tryz.FFrl411, r1, r2, r6, r7, List.drop_zero, List.take_succ_cons, List.take_zero, hidx, hld, encI, S.ld (b := b6) (o := 2) (by repeat constructor) rfl, S.lds (b := b2) (o := 0) (n := 4) (by repeat constructor) (lbt rfl)]
        have ls := least_ok S.ok hγ (ga.gr S.gr) (s := s) hsN (fun v _ => by have := eF hsN v; rwa [seen_self] at this)
        unfold rawV at ls
        refine dn_ret ls ?_
        rintro y h ⟨g, sy, ny⟩
        have p3 : leaves _ _ q = true := leaves_gr g lq
        have p4 : leaves _ _ b6 = true := leaves_gr g l6
        replace S := S.call g; replace RT := RT.gr g; replace RF := RF.gr g; replace hld := g.load hld; clear g
        obtain ⟨ya, yn, yc, rfl⟩ := sy.form
        have fy1 : Fl (.slice ya yn yc) := fl_slice
        rw [← fR] at sy
        have RF1 := RF.push (by rw [nF]; exact sy) (fun c hc => ⟨by have := ny c hc; omega, fun hk => by have := ny c hc; have := kK c hk; omega⟩)
        have S1 := S
        replace S := S1.base
        simp only [BS, LB, cls, Nat.reduceLT, Nat.reduceEqDiff, Nat.reduceAdd, Nat.reducePow, Nat.reduceDiv, Nat.reduceMod, Nat.reduceLeDiff]
        refine dq_newS (bs_new (by first | exact Tryz.u24 | exact Tryz.u25 | exact Tryz.u31 | exact Tryz.u34) (by first | exact Tryz.e2E | exact Tryz.e3E | exact Tryz.e24E | exact Tryz.e51E) (by decide) (by first | rfl | exact fillE )) S ?_; clear S; intro h bt S n_bt e_bt; simp only [repL, setL, vcells, List.cons_append, List.nil_append, List.append_nil, List.set_cons_zero, List.set_cons_succ, Nat.reduceMul, Nat.reduceAdd, Nat.zero_mul, Nat.zero_add, Nat.mul_one, Nat.one_mul] at S
        simp only [BS, LB, cls, Nat.reduceLT, Nat.reduceEqDiff, Nat.reduceAdd, Nat.reducePow, Nat.reduceDiv, Nat.reduceMod, Nat.reduceLeDiff]
        have src : srcCells h 1 (.slice (some ⟨bt, 0, none⟩) 1 1) = some (1, [.slice ya yn yc]) := by simp only [srcCells]; rw [S.lds (b := bt) (o := 0) (n := 1 * 1) m0 (lbt rfl)]; rfl
        replace S := S.drop1
        refine dn_v (S.grow (j := 1) (m := 1) (new := [.slice ya yn yc]) rfl Tryz.u34 Tryz.e24E (by decide) Tryz.n34 src rfl (by decide) (by simp [fy1.2.1]) (by simp; omega)) ?_
        clear S src; rintro h vF' S
        simp only [List.set_cons_zero, List.set_cons_succ] at S
        have fv2 : Fl vF' := by
          rcases (S.gown _ m1).1 with ⟨e, _⟩ | ⟨_, _, e, _⟩
          · rw [show vF' = _ from e]; exact fl_slice
          · rw [show vF' = _ from e]; exact fl_slice
        simp only [BS, LB, cls, Nat.reduceLT, Nat.reduceEqDiff, Nat.reduceAdd, Nat.reducePow, Nat.reduceDiv, Nat.reduceMod, Nat.reduceLeDiff, Tryz.FFrl411, r6]
        refine dn_u (store_fl S (i := 0) rfl Tryz.s34 fv2 (Nat.lt_of_succ_le (lbt rfl)) ono) ?_
        clear S; rintro h ⟨S, _⟩
        simp only [List.set_cons_zero, List.set_cons_succ] at S
        replace RF := RF1.step S
        replace RT := RT.step S
        replace S := S1.rebase S
        clear S1 RF1 fvF ny sy kK
        simp only [BS, LB, Nat.reduceLT, Nat.reduceEqDiff, Nat.reduceAdd, r7]
        refine ⟨by simp only [pairs_cons, pairs_nil, entry_noted, entry_hit, entry_miss, ne_eq, not_false_eq_true, note_load, note_run, note_alloc, noted_some, ll_tmp, ll_put, setR_at, Nat.reduceLT, Nat.reduceEqDiff, reduceIte, Bool.and_true, r1, r2, r4, r6, r7, ptr_eq, pair_br p3, pair_rb p3, pair_br p4, pair_rb p4], ?_⟩
        simp only [w]
        exact ih (i + 1) _ _ (by omega) ⟨by omega, _, _, _, _, S, by simp [nT], by simp [nF], RT, RF, by simp [setR, r1], by simp [setR, r2, ptr_eq], by simp [setR, r4, ptr_eq], by simp [setR, r6, ptr_eq], by simp [setR]⟩
      · have hil : i = l.length := by omega
        subst hil
        have slT : SlAt h 1 encV vT wT := (S.gown _ m0).1.sl (flat_encV wT).symm encV_len (by decide)
        have slF : SlAt h 1 encV vF wF := (S.gown _ m1).1.sl (flat_encV wF).symm encV_len (by decide)
        have bT : ∀ c, blkOf vT c → h0.n ≤ c := fun c hc => ((S.gblk m0 hc).1).elim (fun h => h) (fun h => h.elim)
        have bF : ∀ c, blkOf vF c → h0.n ≤ c := fun c hc => ((S.gblk m1 hc).1).elim (fun h => h) (fun h => h.elim)
        have cT : ∀ c, blkOf vT c → ¬ c = b4 := fun c hc e => (S.gblk m0 hc).2 (by simp [e])
        have cF : ∀ c, blkOf vF c → ¬ c = b4 := fun c hc e => (S.gblk m1 hc).2 (by simp [e])
        have kb4 : b4 ∈ keys [(b6, Ob.row [.slice la ln lc, vT, vF] 1), (b4, .row [.slice none 0 0, .slice none 0 0, .slice none 0 0] 1), (b2, .row [.int .i64 γ.nodes, vx, vy, va] 1)] [(vT, 1, wT), (vF, 1, wF)] := by simp [keys]
        simp only [BS, LB, Nat.reduceLT, Nat.reduceEqDiff, Tryz.FFrl411, r1, r4, r6, r7, hv.lenq, lt_nat, hlt, List.drop_zero, List.take_succ_cons, List.take_zero, S.lds (b := b6) (o := 0) (n := 3) (by repeat constructor) (lbt rfl)]
        refine step_u (S.store (i := 1) rfl Tryz.s36 (by intro x e; cases e) rfl (by simp only [vcells, List.all_cons, List.all_nil, fvT.2.1, fvF.2.1, Bool.and_true]; rfl) (lbt rfl) ono) ?_
        rintro h ⟨S2, mo⟩
        simp only [List.set_cons_zero, List.set_cons_succ, vcells, lay, List.take, List.drop, List.nil_append, List.cons_append, List.append_nil, List.length_cons, List.length_nil, Nat.reduceAdd, Nat.add_zero] at S2
        simp only [BS, tupleOf]
        refine (res_cell (by decide) (by simp only [setR_at, r4, ptr_eq, Nat.reduceEqDiff, reduceIte]; exact loadV_aggr Tryz.a36 Tryz.s36 (S2.lds (b := b4) (o := 0) (n := 3) m1 (lbt rfl)))).2 ((res_tmp (by decide)).2 (res_nil.2 ?_))
        refine ⟨S2.gr, .inr ⟨hm, vT, vF, ?_, ⟨wT, slT.mo mo (fun c hc e => cT c hc e), nT, bT, fun j w hw => ⟨(RT j w hw).1.mo mo (fun x hx e => ((RT j w hw).2 x hx).2 (by rw [e]; exact kb4)), fun x hx => ((RT j w hw).2 x hx).1⟩⟩, ⟨wF, slF.mo mo (fun c hc e => cF c hc e), nF, bF, fun j w hw => ⟨(RF j w hw).1.mo mo (fun x hx e => ((RF j w hw).2 x hx).2 (by rw [e]; exact kb4)), fun x hx => ((RF j w hw).2 x hx).1⟩⟩⟩⟩
        simp [setR]
    · exact ⟨Nat.zero_le _, [], [], _, _, S, rfl, rfl, fun j w hw => by simp at hw, fun j w hw => by simp at hw, by simp [setR, argR_zero, argR_succ], by simp [setR, ptr_eq], by simp [setR, ptr_eq], by simp [setR, ptr_eq], by simp [setR]⟩
  · have hd : decide (MayL γ.nodes l) = false := decide_eq_false hm
    simp only [BS, LB, Nat.reduceLT, Nat.reduceEqDiff, Tryz.FFrl411, hd]
    refine step_u (S.store (i := 0) rfl Tryz.s36 (by intro x e; cases e) rfl rfl (lbt rfl) ono) ?_
    clear S; rintro h ⟨S, _⟩
    simp only [List.set_cons_zero, List.set_cons_succ, vcells, lay, List.take, List.drop, List.nil_append, List.cons_append, List.append_nil, List.length_cons, List.length_nil, Nat.reduceAdd, Nat.add_zero] at S
    simp only [BS, tupleOf]
    refine (res_cell (by decide) (by simp only [setR_at, ptr_eq, Nat.reduceEqDiff, reduceIte]; exact loadV_aggr Tryz.a36 Tryz.s36 (S.lds (b := b4) (o := 0) (n := 3) m0 (lbt rfl)))).2 ((res_tmp (by decide)).2 (res_nil.2 ?_))
    exact ⟨S.gr, .inl ⟨hm, by simp only [setR_at, Nat.reduceEqDiff, reduceIte]; rfl⟩⟩
end Go.Ab

end
section
namespace Go.Ab
open Go.Proofs
set_option maxRecDepth 10000
open Tryz in
def Tryz.FFrl512 := aj a1 <| aj s1 <| aj z1 <| aj n1 <| aj u2 <| aj a2 <| aj s2 <| aj z2 <| aj i2 <| aj u3 <| aj a3 <| aj s3 <| aj z3 <| aj i3 <| aj u4 <| aj a4 <| aj s4 <| aj z4 <| aj n4 <| aj u5 <| aj a5 <| aj s5 <| aj z5 <| aj i5 <| aj u6 <| aj a6 <| aj s6 <| aj z6 <| aj i6 <| aj a7 <| aj s7 <| aj z7 <| aj i7 <| aj n7 <| aj p7 <| aj ff7 <| aj d7 <| aj a8 <| aj s8 <| aj z8 <| aj i8 <| aj n8 <| aj p8 <| aj ff8 <| aj d8 <| aj u9 <| aj a9 <| aj s9 <| aj z9 <| aj n9 <| aj u10 <| aj a10 <| aj s10 <| aj z10 <| aj n10 <| aj u11 <| aj a11 <| aj s11 <| aj z11 <| aj n11 <| aj u12 <| aj a12 <| aj s12 <| aj z12 <| aj i12 <| aj a13 <| aj s13 <| aj z13 <| aj i13 <| aj n13 <| aj p13 <| aj ff13 <| aj d13 <| aj a14 <| aj s14 <| aj z14 <| aj i14 <| aj n14 <| aj p14 <| aj ff14 <| aj d14 <| aj u15 <| aj a15 <| aj s15 <| aj z15 <| aj q15 <| aj i15 <| aj n15 <| aj u17 <| aj a17 <| aj s17 <| aj z17 <| aj q17 <| aj i17 <| aj n17 <| aj u24 <| aj a24 <| aj s24 <| aj z24 <| aj q24 <| aj n24 <| aj u31 <| aj a31 <| aj s31 <| aj z31 <| aj q31 <| aj n31 <| aj u32 <| aj a32 <| aj s32 <| aj z32 <| aj q32 <| aj i32 <| aj n32 <| aj u34 <| aj a34 <| aj s34 <| aj z34 <| aj q34 <| aj n34 <| aj a36 <| aj s36 <| aj z36 <| aj i36 <| aj n36 <| aj p36 <| aj ff36 <| aj d36 <| aj a86 <| aj s86 <| aj z86 <| aj i86 <| aj n86 <| aj p86 <| aj ff86 <| aj d86 <| aj a237 <| aj s237 <| aj z237 <| aj i237 <| aj n237 <| aj p237 <| aj ff237 <| d237
theorem isTab_ok {h0 : Hp} (ok : h0.t.Sized h0.n) {m N m1 m2 : Nat} {p vl vT vF : Value} {l : List Int} {R Q : Nat → List Int} (t : TabAt h0 m p N l R Q) (hl : l.length ≤ 16) (hN : N ≤ 100) (lR : ∀ i, i < l.length → (R i).length = N) (lQ : ∀ i, i < l.length → (Q i).length = N)
    (sl : SlAt h0 1 (encI .i64) vl l) (LT : LLAt h0 m1 vT l.length R) (LF : LLAt h0 m2 vF l.length Q) :
    Pure Tryz.abEnv 12 [p, .int .i64 N, .agg ⟨[vl, vT, vF]⟩] h0 (.bool true) := by
  have S := St.init (M := NoM) ok
  obtain ⟨b, ep⟩ : ∃ b, p = ptrTo b := by obtain ⟨b, _, _, _, e, _⟩ := t.ex; exact ⟨b, e⟩
  subst ep
  have fl := sl.fl
  have fT : Fl vT := by obtain ⟨_, s, _⟩ := LT; exact s.fl
  have fF : Fl vF := by obtain ⟨_, s, _⟩ := LF; exact s.fl
  refine enter_ret (n := 108) (rs := [.tmp 6]) rfl Tryz.e12 rfl rfl rfl (lbt rfl) ?_
  simp only [BS, Nat.reduceLT]
  refine step_newS (box_new (by intro x e; cases e)) S ?_; clear S; intro h b5 S n_b5; simp only [vcells] at S
  simp only [BS, LB, Nat.reduceLT, Nat.reduceEqDiff]
  refine step_ret (tabRows_ok S.ok (t.gr S.gr) (by omega) (fun i hi => by rw [lR i hi]; omega) (fun i hi => by rw [lQ i hi]; omega)) ?_
  rintro r h ⟨g, uT, uF, k, er, D1, D2, _, _⟩
  subst er
  replace S := S.call g; clear g
  obtain ⟨Ta, Tn, Tc, rfl⟩ := D1.form
  obtain ⟨Fa, Fn, Fc, rfl⟩ := D2.form
  simp only [BS, LB, Nat.reduceLT, Nat.reduceEqDiff]
  refine draw_step (hoist_no rfl) (q := 0) (ps := [(10, 12)]) (by kernel_rfl) ?_
  simp only [BS, LB, cls, Nat.reduceLT, Nat.reduceEqDiff, Nat.reduceAdd, Nat.reducePow, Nat.reduceDiv, Nat.reduceMod, Nat.reduceLeDiff, Tryz.FFrl512]
  refine dn_pure (tabNodes_ok S.ok (t.gr S.gr)) ?_
  intro h g
  replace S := S.call g; replace D1 := D1.gr g; replace D2 := D2.gr g; clear g
  simp only [BS, LB, cls, Nat.reduceLT, Nat.reduceEqDiff, Nat.reduceAdd, Nat.reducePow, Nat.reduceDiv, Nat.reduceMod, Nat.reduceLeDiff]
  have l5 := (S.row (b := b5) m0).lt S.ok
  refine dn_ret (tabMarks_ok S.ok (t.gr S.gr) (by omega)) ?_
  rintro vk h ⟨g, slk, _⟩
  have p1 : leaves _ _ b5 = true := leaves_gr g l5
  replace S := S.call g; replace D1 := D1.gr g; replace D2 := D2.gr g; clear g
  simp only [BS, LB, cls, Nat.reduceLT, Nat.reduceEqDiff, Nat.reduceAdd, Nat.reducePow, Nat.reduceDiv, Nat.reduceMod, Nat.reduceLeDiff, Tryz.FFrl512, S.ld (b := b5) (o := 0) (by repeat constructor) rfl]
  refine dn_pure (refInts_ok S.ok slk (sl.gr S.gr) (by omega)) ?_
  intro h g
  have ll : decide (l = l) = true := decide_eq_true rfl
  rw [ll]
  replace S := S.call g; replace D1 := D1.gr g; replace D2 := D2.gr g; clear g
  simp only [BS, LB, cls, Nat.reduceLT, Nat.reduceEqDiff, Nat.reduceAdd, Nat.reducePow, Nat.reduceDiv, Nat.reduceMod, Nat.reduceLeDiff, Tryz.FFrl512, S.ld (b := b5) (o := 1) (by repeat constructor) rfl]
  refine dn_pure (refSame_ok S.ok D1.ll (LT.gr S.gr) (by omega) (fun i hi => by rw [lR i hi]; omega)) ?_
  intro h g
  replace S := S.call g; replace D1 := D1.gr g; replace D2 := D2.gr g; clear g
  simp only [BS, LB, cls, Nat.reduceLT, Nat.reduceEqDiff, Nat.reduceAdd, Nat.reducePow, Nat.reduceDiv, Nat.reduceMod, Nat.reduceLeDiff, Tryz.FFrl512, S.ld (b := b5) (o := 2) (by repeat constructor) rfl]
  refine dn_pure (refSame_ok S.ok D2.ll (LF.gr S.gr) (by omega) (fun i hi => by rw [lQ i hi]; omega)) ?_
  intro h g
  replace S := S.call g; clear g D1 D2
  simp only [BS, LB, cls, Nat.reduceLT, Nat.reduceEqDiff, Nat.reduceAdd, Nat.reducePow, Nat.reduceDiv, Nat.reduceMod, Nat.reduceLeDiff]
  refine ⟨by simp only [pairs_cons, pairs_nil, entry_noted, entry_hit, entry_miss, ne_eq, not_false_eq_true, note_load, note_run, note_alloc, noted_some, ll_tmp, ll_put, setR_at, Nat.reduceLT, Nat.reduceEqDiff, reduceIte, Bool.and_true, ptr_eq, pair_br p1, pair_rb p1], ?_⟩
  refine loop_ind (fun (k : Nat) ρ h => k ≤ l.length + 2 ∧ St NoM h0 h [(b5, .row [vl, vT, vF] 1)] [] ∧ ρ 0 = ptrTo b ∧ ρ 1 = .int .i64 N ∧ ρ 5 = ptrTo b5 ∧ ρ 9 = .int .i64 ((k : Int) - 1)) (fun k => l.length + 2 - k) ?_ 0 _ _ ?_
  · clear S
    intro k ih ρ h ⟨hk, S, r0, r1, r5, r9⟩
    obtain ⟨i, ei⟩ : ∃ i : Int, (k : Int) - 1 = i := ⟨_, rfl⟩
    rw [ei] at r9
    have w : wrapI .i64 (i + 1) = ((k + 1 : Nat) : Int) - 1 := by rw [wrap64] <;> omega
    by_cases hlt : i ≤ (l.length : Int)
    · simp only [BS, LB, Nat.reduceLT, Nat.reduceEqDiff, Tryz.FFrl512, r5, r9, (sl.gr S.gr).lenq, hlt, S.ld (b := b5) (o := 0) (by repeat constructor) rfl]
      refine loop_ind (fun (j : Nat) ρ h => j ≤ N + 2 ∧ St NoM h0 h [(b5, .row [vl, vT, vF] 1)] [] ∧ ρ 0 = ptrTo b ∧ ρ 1 = .int .i64 N ∧ ρ 5 = ptrTo b5 ∧ ρ 9 = .int .i64 i ∧ ρ 10 = .int .i64 ((j : Int) - 1)) (fun j => N + 2 - j) ?_ 0 _ _ ?_
      · clear S r0 r1 r5 r9
        intro j ihj ρ h ⟨hj, S, r0, r1, r5, r9, r10⟩
        obtain ⟨v, ev⟩ : ∃ v : Int, (j : Int) - 1 = v := ⟨_, rfl⟩
        rw [ev] at r10
        have wv : wrapI .i64 (v + 1) = ((j + 1 : Nat) : Int) - 1 := by rw [wrap64] <;> omega
        have T := t.gr S.gr
        by_cases hvt : v ≤ (N : Int)
        · have sl' := sl.gr S.gr
          by_cases c1 : 0 ≤ i
          · by_cases c2 : i < (l.length : Int)
            · by_cases c3 : 0 ≤ v
              · by_cases c4 : v < (N : Int)
                · obtain ⟨i', rfl⟩ := Int.eq_ofNat_of_zero_le c1
                  obtain ⟨v', rfl⟩ := Int.eq_ofNat_of_zero_le c3
                  have hi' : i' < l.length := by omega
                  have hv' : v' < N := by omega
                  obtain ⟨x, ⟨q, o, hx1, hx2⟩, hx, _⟩ := (LT.gr S.gr).row hi'
                  obtain ⟨y, ⟨q2, o2, hy1, hy2⟩, hy, _⟩ := (LF.gr S.gr).row hi'
                  have e1 := lR i' hi'
                  have e2 := lQ i' hi'
                  obtain ⟨q3, o3, hx3, hx4⟩ := hx.ix (kd := .i64) (encI_len .i64) (i := v') (by omega)
                  obtain ⟨q4, o4, hy3, hy4⟩ := hy.ix (kd := .i64) (encI_len .i64) (i := v') (by omega)
                  have t1 : tellI N l.length R i' v' = (R i')[v'] := by
                    unfold tellI; rw [if_pos ⟨c1, c2, c3, c4⟩, Int.toNat_natCast, Int.toNat_natCast]
                    simp [List.getD_eq_getElem?_getD, show v' < (R i').length by omega]
                  have t2 : tellI N l.length Q i' v' = (Q i')[v'] := by
                    unfold tellI; rw [if_pos ⟨c1, c2, c3, c4⟩, Int.toNat_natCast, Int.toNat_natCast]
                    simp [List.getD_eq_getElem?_getD, show v' < (Q i').length by omega]
                  generalize (R i')[v'] = xx at hx4 t1
                  generalize (Q i')[v'] = yy at hy4 t2
                  have fx := hx.fl
                  have fy := hy.fl
                  simp only [BS, LB, Nat.reduceLT, Nat.reduceEqDiff, Tryz.FFrl512, r1, r5, r9, r10, hvt, sl'.lenq, c1, c2, c3, c4, S.ld (b := b5) (o := 0) (by repeat constructor) rfl]
                  refine draw_step (hoist_no rfl) (q := 0) (ps := []) (by kernel_rfl) ?_
                  simp only [BS, LB, cls, Nat.reduceLT, Nat.reduceEqDiff, Nat.reduceAdd, Nat.reducePow, Nat.reduceDiv, Nat.reduceMod, Nat.reduceLeDiff, Tryz.FFrl512, r0, r5, r9, r10, hx1, hx2, hx3, hx4, hy1, hy2, hy3, hy4, encI, S.ld (b := b5) (o := 1) (by repeat constructor) rfl, S.ld (b := b5) (o := 2) (by repeat constructor) rfl]
                  refine step_pure (tabTo_ok S.ok T lR) ?_
                  intro h' g
                  rw [t1]
                  have S' := S.call g
                  simp only [BS, LB, Nat.reduceLT, Nat.reduceEqDiff, r0, r9, r10]
                  refine step_pure (tabFrom_ok S'.ok (T.gr g) lQ) ?_
                  intro h'' g2
                  rw [t2]
                  have S2 := S'.call g2
                  simp only [BS, LB, Nat.reduceLT, Nat.reduceEqDiff, r10, wv]
                  exact ihj (j + 1) _ _ (by omega) ⟨by omega, S2, by simp [setR, r0, ptr_eq], by simp [setR, r1], by simp [setR, r5, ptr_eq], by simp [setR, r9], by simp [setR]⟩
                · have hno : ¬ (0 ≤ i ∧ i < (l.length : Int) ∧ 0 ≤ v ∧ v < (N : Int)) := by omega
                  have t1 : tellI N l.length R i v = 72057594037927936 := by unfold tellI; rw [if_neg hno]
                  have t2 : tellI N l.length Q i v = 72057594037927936 := by unfold tellI; rw [if_neg hno]
                  simp only [BS, LB, Nat.reduceLT, Nat.reduceEqDiff, Tryz.FFrl512, r0, r1, r5, r9, r10, hvt, sl'.lenq, c1, c2, c3, c4, S.ld (b := b5) (o := 0) (by repeat constructor) rfl]
                  refine step_pure (tabTo_ok S.ok T lR) ?_
                  intro h' g
                  rw [t1]
                  have S' := S.call g
                  simp only [BS, LB, Nat.reduceLT, Nat.reduceEqDiff, r0, r9, r10]
                  refine step_pure (tabFrom_ok S'.ok (T.gr g) lQ) ?_
                  intro h'' g2
                  rw [t2]
                  have S2 := S'.call g2
                  simp only [BS, LB, Nat.reduceLT, Nat.reduceEqDiff, r10, wv]
                  exact ihj (j + 1) _ _ (by omega) ⟨by omega, S2, by simp [setR, r0, ptr_eq], by simp [setR, r1], by simp [setR, r5, ptr_eq], by simp [setR, r9], by simp [setR]⟩
              · have hno : ¬ (0 ≤ i ∧ i < (l.length : Int) ∧ 0 ≤ v ∧ v < (N : Int)) := by omega
                have t1 : tellI N l.length R i v = 72057594037927936 := by unfold tellI; rw [if_neg hno]
                have t2 : tellI N l.length Q i v = 72057594037927936 := by unfold tellI; rw [if_neg hno]
                simp only [BS, LB, Nat.reduceLT, Nat.reduceEqDiff, Tryz.FFrl512, r0, r1, r5, r9, r10, hvt, sl'.lenq, c1, c2, c3, S.ld (b := b5) (o := 0) (by repeat constructor) rfl]
                refine step_pure (tabTo_ok S.ok T lR) ?_
                intro h' g
                rw [t1]
                have S' := S.call g
                simp only [BS, LB, Nat.reduceLT, Nat.reduceEqDiff, r0, r9, r10]
                refine step_pure (tabFrom_ok S'.ok (T.gr g) lQ) ?_
                intro h'' g2
                rw [t2]
                have S2 := S'.call g2
                simp only [BS, LB, Nat.reduceLT, Nat.reduceEqDiff, r10, wv]
                exact ihj (j + 1) _ _ (by omega) ⟨by omega, S2, by simp [setR, r0, ptr_eq], by simp [setR, r1], by simp [setR, r5, ptr_eq], by simp [setR, r9], by simp [setR]⟩
            · have hno : ¬ (0 ≤ i ∧ i < (l.length : Int) ∧ 0 ≤ v ∧ v < (N : Int)) := by omega
              have t1 : tellI N l.length R i v = 72057594037927936 := by unfold tellI; rw [if_neg hno]
              have t2 : tellI N l.length Q i v = 72057594037927936 := by unfold tellI; rw [if_neg hno]
              simp only [BS, LB, Nat.reduceLT, Nat.reduceEqDiff, Tryz.FFrl512, r0, r1, r5, r9, r10, hvt, sl'.lenq, c1, c2, S.ld (b := b5) (o := 0) (by repeat constructor) rfl]
              refine step_pure (tabTo_ok S.ok T lR) ?_
              intro h' g
              rw [t1]
              have S' := S.call g
              simp only [BS, LB, Nat.reduceLT, Nat.reduceEqDiff, r0, r9, r10]
              refine step_pure (tabFrom_ok S'.ok (T.gr g) lQ) ?_
              intro h'' g2
              rw [t2]
              have S2 := S'.call g2
              simp only [BS, LB, Nat.reduceLT, Nat.reduceEqDiff, r10, wv]
              exact ihj (j + 1) _ _ (by omega) ⟨by omega, S2, by simp [setR, r0, ptr_eq], by simp [setR, r1], by simp [setR, r5, ptr_eq], by simp [setR, r9], by simp [setR]⟩
          · have hno : ¬ (0 ≤ i ∧ i < (l.length : Int) ∧ 0 ≤ v ∧ v < (N : Int)) := by omega
            have t1 : tellI N l.length R i v = 72057594037927936 := by unfold tellI; rw [if_neg hno]
            have t2 : tellI N l.length Q i v = 72057594037927936 := by unfold tellI; rw [if_neg hno]
            simp only [BS, LB, Nat.reduceLT, Nat.reduceEqDiff, r0, r1, r9, r10, hvt, c1, S.ld (b := b5) (o := 0) (by repeat constructor) rfl]
            refine step_pure (tabTo_ok S.ok T lR) ?_
            intro h' g
            rw [t1]
            have S' := S.call g
            simp only [BS, LB, Nat.reduceLT, Nat.reduceEqDiff, r0, r9, r10]
            refine step_pure (tabFrom_ok S'.ok (T.gr g) lQ) ?_
            intro h'' g2
            rw [t2]
            have S2 := S'.call g2
            simp only [BS, LB, Nat.reduceLT, Nat.reduceEqDiff, r10, wv]
            exact ihj (j + 1) _ _ (by omega) ⟨by omega, S2, by simp [setR, r0, ptr_eq], by simp [setR, r1], by simp [setR, r5, ptr_eq], by simp [setR, r9], by simp [setR]⟩
        · simp only [BS, LB, tupleOf, Nat.reduceLT, Nat.reduceEqDiff, r1, r9, r10, hvt, w]
          exact ih (k + 1) _ _ (by omega) ⟨by omega, S, by simp [setR, r0, ptr_eq], by simp [setR, r1], by simp [setR, r5, ptr_eq], by simp [setR]⟩
      · exact ⟨Nat.zero_le _, S, by simp [setR, r0, ptr_eq], by simp [setR, r1], by simp [setR, r5, ptr_eq], by simp [setR, r9], by simp [setR]⟩
    · simp only [BS, LB, tupleOf, Nat.reduceLT, Nat.reduceEqDiff, Tryz.FFrl512, r5, r9, (sl.gr S.gr).lenq, hlt, S.ld (b := b5) (o := 0) (by repeat constructor) rfl]
      exact S.gr
  · exact ⟨Nat.zero_le _, S, by simp [setR, argR_zero, ptr_eq], by simp [setR, argR_zero, argR_succ], by simp [setR, ptr_eq], by simp [setR]⟩
end Go.Ab

end
section
namespace Go.Ab
open Go.Proofs
set_option maxRecDepth 10000
open Tryz in
def Tryz.FFrl63 := aj a1 <| aj s1 <| aj z1 <| aj n1 <| aj u2 <| aj a2 <| aj s2 <| aj z2 <| aj i2 <| aj u3 <| aj a3 <| aj s3 <| aj z3 <| aj i3 <| aj u4 <| aj a4 <| aj s4 <| aj z4 <| aj n4 <| aj u5 <| aj a5 <| aj s5 <| aj z5 <| aj i5 <| aj u6 <| aj a6 <| aj s6 <| aj z6 <| aj i6 <| aj a7 <| aj s7 <| aj z7 <| aj i7 <| aj n7 <| aj p7 <| aj ff7 <| aj d7 <| aj a8 <| aj s8 <| aj z8 <| aj i8 <| aj n8 <| aj p8 <| aj ff8 <| aj d8 <| aj u9 <| aj a9 <| aj s9 <| aj z9 <| aj n9 <| aj u10 <| aj a10 <| aj s10 <| aj z10 <| aj n10 <| aj u11 <| aj a11 <| aj s11 <| aj z11 <| aj n11 <| aj u12 <| aj a12 <| aj s12 <| aj z12 <| aj i12 <| aj a13 <| aj s13 <| aj z13 <| aj i13 <| aj n13 <| aj p13 <| aj ff13 <| aj d13 <| aj a14 <| aj s14 <| aj z14 <| aj i14 <| aj n14 <| aj p14 <| aj ff14 <| aj d14 <| aj u15 <| aj a15 <| aj s15 <| aj z15 <| aj q15 <| aj i15 <| aj n15 <| aj u17 <| aj a17 <| aj s17 <| aj z17 <| aj q17 <| aj i17 <| aj n17 <| aj u22 <| aj a22 <| aj s22 <| aj z22 <| aj q22 <| aj n22 <| aj u23 <| aj a23 <| aj s23 <| aj z23 <| aj q23 <| aj n23 <| aj u24 <| aj a24 <| aj s24 <| aj z24 <| aj q24 <| aj n24 <| aj u25 <| aj a25 <| aj s25 <| aj z25 <| aj q25 <| aj n25 <| aj a27 <| aj s27 <| aj z27 <| aj i27 <| aj n27 <| aj p27 <| aj ff27 <| aj d27 <| aj u29 <| aj a29 <| aj s29 <| aj z29 <| aj q29 <| aj i29 <| aj n29 <| aj u31 <| aj a31 <| aj s31 <| aj z31 <| aj q31 <| aj n31 <| aj u32 <| aj a32 <| aj s32 <| aj z32 <| aj q32 <| aj i32 <| aj n32 <| aj u34 <| aj a34 <| aj s34 <| aj z34 <| aj q34 <| aj n34 <| aj a36 <| aj s36 <| aj z36 <| aj i36 <| aj n36 <| aj p36 <| aj ff36 <| aj d36 <| aj u41 <| aj a41 <| aj s41 <| aj z41 <| aj i41 <| aj a51 <| aj s51 <| aj z51 <| aj i51 <| aj n51 <| aj p51 <| aj ff51 <| aj d51 <| aj a86 <| aj s86 <| aj z86 <| aj i86 <| aj n86 <| aj p86 <| aj ff86 <| aj d86 <| aj u126 <| aj a126 <| aj s126 <| aj z126 <| aj q126 <| aj n126 <| aj a128 <| aj s128 <| aj z128 <| aj i128 <| aj n128 <| aj p128 <| aj ff128 <| aj d128 <| aj a237 <| aj s237 <| aj z237 <| aj i237 <| aj n237 <| aj p237 <| aj ff237 <| d237
theorem tableTellsLaw_ok {h0 : Hp} (ok : h0.t.Sized h0.n) {vB vm : Value} {B ms : List Int} (hB : SlW h0 .u8 vB B) (hm : SlW h0 .i8 vm ms) (hr : ∀ x ∈ ms, -128 ≤ x ∧ x ≤ 127) :
    Pure Tryz.abEnv 3 [vB, vm] h0 (.bool true) := by
  have S := St.init (M := NoM) ok
  have fm := hm.sl.fl
  refine enter_ret (n := 72) (rs := [.tmp 4]) rfl Tryz.e3 rfl rfl rfl (lbt rfl) ?_
  simp only [BS, LB, Nat.reduceLT, Nat.reduceEqDiff]
  refine step_ret (drawn_ok S.ok hB) ?_; intro v h ⟨g, γ, vx, vy, va, er, hγ, ga, hz⟩; replace S := S.call g; clear g
  subst er
  have n1 := hγ.n1
  have n2 := hγ.n2
  have fx := ga.X.fl
  have fy := ga.Y.fl
  have fa := ga.A.fl
  have okD := S.ok
  have S1 := S
  replace S := S.base
  simp only [BS, Tryz.FFrl63, rawV]
  refine step_newS allocR_new S ?_; clear S; intro h b5 S n_b5
  simp only [BS, LB, Nat.reduceLT, Nat.reduceEqDiff]
  refine step_u (S.store (i := 0) rfl Tryz.s27 (by intro x e; cases e) rfl (by simp only [vcells, List.all_cons, List.all_nil, fx.2.1, fy.2.1, fa.2.1, Bool.and_true]; rfl) (lbt rfl) ono) ?_
  clear S; rintro h ⟨S, mo⟩
  simp only [List.set_cons_zero, List.set_cons_succ, vcells, lay, List.take, List.drop, List.nil_append, List.cons_append, List.append_nil, List.length_cons, List.length_nil, Nat.reduceAdd, Nat.add_zero] at S
  have zX : ∀ c, blkOf vx c → ¬ c = b5 := fun c hc e => by have := ga.X.lt okD hc; omega
  have zY : ∀ c, blkOf vy c → ¬ c = b5 := fun c hc e => by have := ga.Y.lt okD hc; omega
  have zA : ∀ c, blkOf va c → ¬ c = b5 := fun c hc e => by have := ga.A.lt okD hc; omega
  replace ga : GraphAt h vx vy va γ := ga.mo S.fr (fun c hc e => by simp [keys] at e)
  replace S := S1.rebase S
  clear S1 mo
  simp only [BS, LB, Nat.reduceLT, Nat.reduceEqDiff, Tryz.FFrl63, List.drop_zero, List.take_succ_cons, List.take_zero, S.lds (b := b5) (o := 0) (n := 4) (by repeat constructor) (lbt rfl)]
  have lt5 := (S.row (b := b5) m0).lt S.ok
  have mk := made_ok S.ok hγ ga
  unfold rawV at mk
  refine step_ret (mk) ?_; intro v h ⟨g, hp⟩; replace S := S.call g; replace ga := ga.gr g; clear g
  obtain ⟨bp, ep⟩ : ∃ b, v = ptrTo b := by obtain ⟨b, _, _, _, _, _, e, _⟩ := hp.ex; exact ⟨b, e⟩
  subst ep
  have eT := fun {s : Nat} (hs : s < γ.nodes) (v : Nat) => exTo S.ok hγ hp hs v
  have eF := fun {s : Nat} (hs : s < γ.nodes) (v : Nat) => exFrom S.ok hγ hp hs v
  simp only [BS, LB, Nat.reduceLT, Nat.reduceEqDiff, Tryz.FFrl63]
  replace S := S.nilG (k := 1)
  have SL := S
  have k0 := S.fr.n
  replace S := S.base
  refine loop_ind (fun (k : Nat) ρ h' => k ≤ 21 ∧ k ≤ ms.length + 1 ∧ ∃ (vl : Value) (l : List Int), St (· ∈ keys [(b5, Ob.row [.int .i64 γ.nodes, vx, vy, va] 1)] [(.slice none 0 0, 1, [])]) h h' [(b5, .row [.int .i64 γ.nodes, vx, vy, va] 1)] [(vl, 1, ints l)] ∧ l.length ≤ k ∧ ρ 1 = vm ∧ ρ 5 = ptrTo b5 ∧ ρ 6 = ptrTo bp ∧ ρ 7 = vl ∧ ρ 8 = .int .i64 k) (fun k => 21 - k) ?_ 0 _ _ ?_
  · clear S
    intro k ih ρ h2 ⟨hk, hk2, vl, l, S, hll, r1, r5, r6, r7, r8⟩
    have w : wrapI .i64 ((k : Int) + 1) = ((k + 1 : Nat) : Int) := by rw [wrap64] <;> omega
    have GR := (SL.rebase S).gr
    have MK : ∀ {h3 : Hp} {L' : List (Nat × Ob)} {G' : List GL}, St (· ∈ keys [(b5, Ob.row [.int .i64 γ.nodes, vx, vy, va] 1)] [(.slice none 0 0, 1, [])]) h h3 L' G' → NetAt h3 _ (ptrTo bp) γ ∧ GraphAt h3 vx vy va γ := fun T => ⟨hp.mo T.fr (fun c e => by simp [keys, gkey] at e; omega), ga.mo T.fr (fun c hc e => by
      simp [keys, gkey] at e
      rcases hc with hc | hc | hc
      · exact zX c hc e
      · exact zY c hc e
      · exact zA c hc e)⟩
    by_cases hlt : k ≤ ms.length ∧ k ≤ 20
    · obtain ⟨hlt, h20⟩ := hlt
      have c1 : (k : Int) ≤ (ms.length : Int) := by omega
      have c2 : (k : Int) ≤ 20 := by omega
      have sl : SlAt h2 1 (encI .i64) vl l := (S.gown _ m0).1.sl rfl (fun _ => rfl) (by decide)
      have fvl := sl.fl
      simp only [BS, LB, Nat.reduceLT, Nat.reduceEqDiff, Tryz.FFrl63, r1, r6, r7, r8, hm.sl.lenq, c1, c2]
      have kK2 := fun c (hc : c ∈ keys _ _) => S.key_lt hc
      refine step_ret (tabOf_ok S.ok hγ (MK S).1 sl (by omega)) ?_
      rintro pt h3 ⟨g, hT⟩
      replace S := S.call g; replace sl := sl.gr g; clear g
      simp only [BS, LB, Nat.reduceLT, Nat.reduceEqDiff, Tryz.FFrl63, r5, r7, List.drop_zero, List.take_succ_cons, List.take_zero, S.lds (b := b5) (o := 0) (n := 4) (by repeat constructor) (lbt rfl)]
      have ro := refOf_ok S.ok hγ (MK S).2 sl (by omega) eT eF
      unfold rawV at ro
      have kK3 := fun c (hc : c ∈ keys _ _) => S.key_lt hc
      refine step_ret ro ?_
      rintro r h4 ⟨g, hO⟩
      replace S := S.call g; replace sl := sl.gr g
      rcases hO with ⟨hn, er⟩ | ⟨hy, vT, vF, er, LT, LF⟩
      · subst er
        obtain ⟨_, ept⟩ := hT.resolve_right (fun h => hn h.1)
        subst ept
        clear g
        simp only [BS, LB, Nat.reduceLT, Nat.reduceEqDiff, Tryz.FFrl63]
        refine step_newS allocR_new S ?_; clear S; intro h b10 S n_b10
        simp only [BS, LB, Nat.reduceLT, Nat.reduceEqDiff]
        refine step_u (S.store (i := 0) rfl Tryz.s36 (by intro x e; cases e) rfl (rfl) (lbt rfl) ono) ?_
        clear S; rintro h ⟨S, _⟩
        simp only [List.set_cons_zero, List.set_cons_succ, vcells, lay, List.take, List.drop, List.nil_append, List.cons_append, List.append_nil, List.length_cons, List.length_nil, Nat.reduceAdd, Nat.add_zero] at S
        simp only [BS, LB, Nat.reduceLT, Nat.reduceEqDiff, Tryz.FFrl63, r1, r8]
        replace S := S.drop1
        by_cases hkt : k < ms.length
        · obtain ⟨q, o, hidx, hld⟩ := (hm.sl.gr (SL.rebase S).gr).ix (kd := .i64) (encI_len .i8) hkt
          have hx := hr _ (List.getElem_mem hkt)
          generalize ms[k] = x at hld hx
          have wc : wrapI .i64 x = x := by rw [wrap64] <;> omega
          have nz : (16 : Int) ≠ 0 := by decide
          obtain ⟨y, ey⟩ : ∃ y, x.tmod 16 = y := ⟨_, rfl⟩
          simp only [BS, LB, convV, convKind, convP, Nat.reduceLT, Nat.reduceEqDiff, Tryz.FFrl63, r1, r7, r8, hm.sl.lenq, lt_nat, hkt, hidx, hld, encI, wc, b_rem nz, ey]
          refine step_newS (bs_new (by first | exact Tryz.u22 | exact Tryz.u23 | exact Tryz.u24 | exact Tryz.u25 | exact Tryz.u31 | exact Tryz.u34 | exact Tryz.u126) (by first | exact Tryz.e2E | exact Tryz.e3E | exact Tryz.e5E | exact Tryz.e24E | exact Tryz.e31E | exact Tryz.e41E | exact Tryz.e51E) (by decide) (by first | rfl | exact fillE )) S ?_; clear S; intro h bs S n_bs; simp only [repL, setL, vcells, List.cons_append, List.nil_append, List.append_nil, List.set_cons_zero, List.set_cons_succ, Nat.reduceMul, Nat.reduceAdd, Nat.zero_mul, Nat.zero_add, Nat.mul_one, Nat.one_mul] at S
          simp only [BS, LB, Nat.reduceLT, Nat.reduceEqDiff]
          have src : srcCells h 1 (.slice (some ⟨bs, 0, none⟩) 1 1) = some (1, ints [y]) := by simp only [srcCells]; rw [S.lds (b := bs) (o := 0) (n := 1 * 1) m0 (lbt rfl)]; rfl
          replace S := S.drop1
          refine step_v (S.grow (j := 0) (m := 1) (new := ints [y]) rfl Tryz.u31 Tryz.e3E (by decide) Tryz.n31 src rfl (by decide) rfl (by rw [ints_len, ints_len]; simp; omega)) ?_
          clear S src; rintro h9 vR' S
          simp only [List.set_cons_zero] at S
          rw [← ints_app] at S
          simp only [BS, LB, Nat.reduceLT, Nat.reduceEqDiff, r8, w]
          exact ih (k + 1) _ _ (by omega) ⟨by omega, by omega, _, l ++ [y], S, by simp; omega, by simp [setR, r1], by simp [setR, r5, ptr_eq], by simp [setR, r6, ptr_eq], by simp [setR], by simp [setR]⟩
        · simp only [BS, LB, Nat.reduceLT, Nat.reduceEqDiff, r8, hm.sl.lenq, lt_nat, hkt, w]
          exact ih (k + 1) _ _ (by omega) ⟨by omega, by omega, _, l, S, by omega, by simp [setR, r1], by simp [setR, r5, ptr_eq], by simp [setR, r6, ptr_eq], by simp [setR, r7], by simp [setR]⟩
      · subst er
        have l16 := hy.1
        replace hT := (hT.resolve_left (fun h => h.1 hy)).2
        obtain ⟨bt, et⟩ : ∃ b, pt = ptrTo b := by obtain ⟨b, _, _, _, e, _⟩ := hT.ex; exact ⟨b, e⟩
        subst et
        replace hT := hT.gr g
        clear g
        have fT : Fl vT := by obtain ⟨_, s, _⟩ := LT; exact s.fl
        have fF : Fl vF := by obtain ⟨_, s, _⟩ := LF; exact s.fl
        have S1 := S
        replace S := S1.base
        simp only [BS, LB, Nat.reduceLT, Nat.reduceEqDiff, Tryz.FFrl63]
        refine step_newS allocR_new S ?_; clear S; intro h b10 S n_b10
        simp only [BS, LB, Nat.reduceLT, Nat.reduceEqDiff]
        refine step_u (S.store (i := 0) rfl Tryz.s36 (by intro x e; cases e) rfl (by simp only [vcells, List.all_cons, List.all_nil, fvl.2.1, fT.2.1, fF.2.1, Bool.and_true]) (lbt rfl) ono) ?_
        clear S; rintro h ⟨S, _⟩
        simp only [List.set_cons_zero, List.set_cons_succ, vcells, lay, List.take, List.drop, List.nil_append, List.cons_append, List.append_nil, List.length_cons, List.length_nil, Nat.reduceAdd, Nat.add_zero] at S
        replace hT := hT.mo S.fr (fun c hc => kK2 c hc)
        replace LT := LT.mo S.fr (fun c hc => kK3 c hc)
        replace LF := LF.mo S.fr (fun c hc => kK3 c hc)
        replace S := S1.rebase S
        clear S1
        have sl : SlAt h 1 (encI .i64) vl l := (S.gown _ m0).1.sl rfl (fun _ => rfl) (by decide)
        have lR : ∀ i, i < l.length → (toR γ l i).length = γ.nodes := fun i _ => rowD_len _ _ _
        have lQ : ∀ i, i < l.length → (frR γ l i).length = γ.nodes := fun i _ => rowD_len _ _ _
        have tt : TrueT γ l (toR γ l) (frR γ l) := ⟨fun _ _ => rfl, fun _ _ => rfl⟩
        have dt : Decidable (TrueT γ l (toR γ l) (frR γ l)) := Classical.propDecidable _
        simp only [BS, LB, Nat.reduceLT, Nat.reduceEqDiff, Tryz.FFrl63, r5, List.drop_zero, List.take_succ_cons, List.take_zero, S.ld (b := b5) (o := 0) (by repeat constructor) rfl, S.lds (b := b10) (o := 0) (n := 3) (by repeat constructor) (lbt rfl)]
        refine step_pure (isTab_ok S.ok hT l16 (by omega) lR lQ sl LT LF) ?_
        intro h g
        replace S := S.call g; replace hT := hT.gr g; clear g
        simp only [BS, LB, Nat.reduceLT, Nat.reduceEqDiff, r6]
        refine step_pure (tabTrue_ok S.ok hγ (MK S).1 hT hy dt) ?_
        intro h g
        rw [decide_eq_true tt]
        replace S := S.call g; clear g
        simp only [BS, LB, Nat.reduceLT, Nat.reduceEqDiff, Tryz.FFrl63, r1, r8]
        replace S := S.drop1
        by_cases hkt : k < ms.length
        · obtain ⟨q, o, hidx, hld⟩ := (hm.sl.gr (SL.rebase S).gr).ix (kd := .i64) (encI_len .i8) hkt
          have hx := hr _ (List.getElem_mem hkt)
          generalize ms[k] = x at hld hx
          have wc : wrapI .i64 x = x := by rw [wrap64] <;> omega
          have nz : (16 : Int) ≠ 0 := by decide
          obtain ⟨y, ey⟩ : ∃ y, x.tmod 16 = y := ⟨_, rfl⟩
          simp only [BS, LB, convV, convKind, convP, Nat.reduceLT, Nat.reduceEqDiff, Tryz.FFrl63, r1, r7, r8, hm.sl.lenq, lt_nat, hkt, hidx, hld, encI, wc, b_rem nz, ey]
          refine step_newS (bs_new (by first | exact Tryz.u22 | exact Tryz.u23 | exact Tryz.u24 | exact Tryz.u25 | exact Tryz.u31 | exact Tryz.u34 | exact Tryz.u126) (by first | exact Tryz.e2E | exact Tryz.e3E | exact Tryz.e5E | exact Tryz.e24E | exact Tryz.e31E | exact Tryz.e41E | exact Tryz.e51E) (by decide) (by first | rfl | exact fillE )) S ?_; clear S; intro h bs S n_bs; simp only [repL, setL, vcells, List.cons_append, List.nil_append, List.append_nil, List.set_cons_zero, List.set_cons_succ, Nat.reduceMul, Nat.reduceAdd, Nat.zero_mul, Nat.zero_add, Nat.mul_one, Nat.one_mul] at S
          simp only [BS, LB, Nat.reduceLT, Nat.reduceEqDiff]
          have src : srcCells h 1 (.slice (some ⟨bs, 0, none⟩) 1 1) = some (1, ints [y]) := by simp only [srcCells]; rw [S.lds (b := bs) (o := 0) (n := 1 * 1) m0 (lbt rfl)]; rfl
          replace S := S.drop1
          refine step_v (S.grow (j := 0) (m := 1) (new := ints [y]) rfl Tryz.u31 Tryz.e3E (by decide) Tryz.n31 src rfl (by decide) rfl (by rw [ints_len, ints_len]; simp; omega)) ?_
          clear S src; rintro h9 vR' S
          simp only [List.set_cons_zero] at S
          rw [← ints_app] at S
          simp only [BS, LB, Nat.reduceLT, Nat.reduceEqDiff, r8, w]
          exact ih (k + 1) _ _ (by omega) ⟨by omega, by omega, _, l ++ [y], S, by simp; omega, by simp [setR, r1], by simp [setR, r5, ptr_eq], by simp [setR, r6, ptr_eq], by simp [setR], by simp [setR]⟩
        · simp only [BS, LB, Nat.reduceLT, Nat.reduceEqDiff, r8, hm.sl.lenq, lt_nat, hkt, w]
          exact ih (k + 1) _ _ (by omega) ⟨by omega, by omega, _, l, S, by omega, by simp [setR, r1], by simp [setR, r5, ptr_eq], by simp [setR, r6, ptr_eq], by simp [setR, r7], by simp [setR]⟩
    · have c1 : ¬ ((k : Int) ≤ (ms.length : Int) ∧ (k : Int) ≤ 20) := fun h => hlt ⟨by omega, by omega⟩
      by_cases d1 : (k : Int) ≤ (ms.length : Int)
      · have d2 : ¬ (k : Int) ≤ 20 := fun h => c1 ⟨d1, h⟩
        simp only [BS, LB, Nat.reduceLT, Nat.reduceEqDiff, Tryz.FFrl63, r1, r8, hm.sl.lenq, d1, d2]
        refine step_pure (worksTab_ok S.ok) ?_
        intro h g
        simp only [BS, LB, tupleOf, Nat.reduceLT, Nat.reduceEqDiff]
        exact GR.trans g
      · simp only [BS, LB, Nat.reduceLT, Nat.reduceEqDiff, Tryz.FFrl63, r1, r8, hm.sl.lenq, d1]
        refine step_pure (worksTab_ok S.ok) ?_
        intro h g
        simp only [BS, LB, tupleOf, Nat.reduceLT, Nat.reduceEqDiff]
        exact GR.trans g
  · exact ⟨by omega, by omega, _, [], S, by simp, by simp [setR, argR_zero, argR_succ], by simp [setR, ptr_eq], by simp [setR, ptr_eq], by simp [setR], by simp [setR]⟩
end Go.Ab

end
section
namespace Go.Ab
open Go.ChangeShapes Go.WideShapes Go.RowKit
theorem rowAt_le {P : Program} {fits : TypeId → Bool} {d : Nat} {e : TypeId} {count off n : Nat} (h : rowAt P fits d e count off n = true) : off ≤ count * P.cellsOf e := by
  cases d with
  | zero => cases h
  | succ d =>
    unfold rowAt at h
    simp only [] at h
    split at h
    · cases h
    · rename_i hs
      have hpos : 0 < P.cellsOf e := by omega
      have hdm := Nat.div_add_mod off (P.cellsOf e)
      simp only [Bool.or_eq_true, Bool.and_eq_true, beq_iff_eq, decide_eq_true_eq] at h
      rcases h with ⟨⟨h1, h2⟩, _⟩ | ⟨h1, _⟩
      · have : P.cellsOf e * (off / P.cellsOf e) ≤ P.cellsOf e * count := Nat.mul_le_mul_left _ (by omega)
        rw [Nat.mul_comm count]; omega
      · have : P.cellsOf e * (off / P.cellsOf e + 1) ≤ P.cellsOf e * count := Nat.mul_le_mul_left _ (by omega)
        have hlt := Nat.mod_lt off hpos
        rw [Nat.mul_add, Nat.mul_one] at this
        rw [Nat.mul_comm count]; omega
theorem liesAt_le {P : Program} {d : Nat} : ∀ {e : TypeId} {count off : Nat} {u : TypeId} {n : Nat}, liesAt P d e count off u n = true → off ≤ count * P.cellsOf e := by
  induction d with
  | zero => intro e count off u n h; cases h
  | succ d ih =>
    intro e count off u n h
    unfold liesAt at h
    rw [Bool.or_eq_true] at h
    rcases h with h | h
    · exact rowAt_le h
    · split at h
      · exact ih h
      · cases h
theorem has_W {P : Program} {W : World} {r : _root_.Go.Reach} {base : Nat} {a : Addr} {e : TypeId} {n : Nat} (h : W.has P r base a e n) : a.spot = none ∧ a.block < W.heap.size ∧ ∃ l, (hpW W).load (a.block + 16) a.off 0 = some l := by
  obtain ⟨_, hsp, row, cells, hsh, hl⟩ := h
  have hle := liesAt_le hl
  have hle2 : a.off ≤ cells := Nat.le_trans hle (Nat.div_mul_le_self _ _)
  unfold World.shape? at hsh
  split at hsh
  next cs el fz ho =>
    cases hsh
    have hlt := (Array.getElem?_eq_some_iff.1 ho).1
    have hr : Row (hpW W) (a.block + 16) (cs.toList.map (absV W.heap.size)) 0 := ⟨_, _, by rw [hpW_at, ho]; rfl, Tr.sized_ofList _, fun j => Tr.get_ofList _ j⟩
    exact ⟨hsp, hlt, _, hr.load (o := a.off) (n := 0) (by simpa using hle2)⟩
  · cases hsh
section
variable {H : Type} {enc : TypeId × Value → H} {P : Program}
theorem open_sl {W : World} {base fuel : Nat} {s e : TypeId} {k : IntKind} {c : Value} {sp : Nat → Bool} {hd : Bool} {x : DataW H × List MemPlace} (hs : P.underlying s = some (.slice e)) (he : P.underlying e = some (.int k)) (hc : P.cellsOf e = 1)
    (hok : Cell.okWide P W .any base s c) (h : DataW.trod enc P W 0 sp hd fuel s [c] = some x) : ∃ zs : List Int, SlW (hpW W) k (absV W.heap.size c) zs ∧ (∀ z ∈ zs, (Lit.int k z).wf = true) ∧ zs.length ≤ 9223372036854775807 := by
  rcases Go.ChangeShapes.open_ints hs he hc h with ⟨e1, _⟩ | ⟨a, len, cap, zs, e1, hb, hl, hm, hz, _, hcell, hwf⟩
  · cases e1
    exact ⟨[], .inl ⟨rfl, rfl⟩, fun z hz => (by cases hz), by simp⟩
  · cases e1
    unfold Cell.okWide at hok
    rw [hs] at hok
    simp only [Cell.ok, hs] at hok
    obtain ⟨hle1, hmax, hhas⟩ := hok
    obtain ⟨hsp, hlt, h0⟩ := has_W hhas
    have hlz : len ≤ zs.length := by rw [hz]; split <;> omega
    refine ⟨zs.take len, .inr ⟨a.block + 16, a.off, cap, ?_, ?_, ?_⟩, fun z hz => hwf z (List.mem_of_mem_take hz), by
      have : (cap : Int) ≤ 9223372036854775807 := hmax
      rw [List.length_take]; omega⟩
    · rw [List.length_take, Nat.min_eq_left hlz]
      simp only [absV, if_pos hl, if_pos (And.intro hsp hlt)]
    · rw [List.length_take, Nat.min_eq_left hlz]; exact hl
    · rw [List.length_take, Nat.min_eq_left hlz, Nat.mul_one]
      rw [load_join (f := fun i => .int k (zs.getD i 0)) h0 (fun i hi => load_W hsp (hcell i (by omega)))]
      congr 1
      have e4 : ∀ l : List Int, l.flatMap (encI k) = l.map fun x => .int k x := fun l => by
        rw [List.flatMap_eq_foldl, List.map_eq_flatMap, List.flatMap_eq_foldl]; rfl
      rw [e4]
      refine List.ext_getElem? fun i => ?_
      rw [List.getElem?_map, List.getElem?_map, List.getElem?_take]
      by_cases hi : i < len
      · rw [if_pos hi, List.getElem?_range hi, List.getElem?_eq_getElem (show i < zs.length by omega)]
        simp [List.getD_eq_getElem?_getD, show i < zs.length by omega]
      · rw [if_neg hi, List.getElem?_eq_none (by simpa using hi)]; rfl
theorem open_slV {W : World} {base : Nat} {s e : TypeId} {k : IntKind} {v : Value} {sp : Nat → Bool} {hd : Bool} {d : DataW H} {p : List MemPlace} (hs : P.underlying s = some (.slice e)) (he : P.underlying e = some (.int k)) (hc : P.cellsOf e = 1)
    (hval : Value.okWide P W .any base s v) (h : DataW.Trod enc P W 0 sp hd s v d p) : ∃ zs : List Int, SlW (hpW W) k (absA W.heap.size v) zs ∧ (∀ z ∈ zs, (Lit.int k z).wf = true) ∧ zs.length ≤ 9223372036854775807 := by
  unfold Value.okWide at hval
  rw [hs] at hval
  obtain ⟨fuel, h⟩ := h
  have hc0 : ∀ l : Array Value, v ≠ .agg l := by
    rintro l rfl
    simp only [Cell.okWide, hs, Cell.ok] at hval
  have hcs : v.cells.toList = [v] := by cases v <;> first | rfl | exact absurd rfl (hc0 _)
  rw [hcs] at h
  have ha : absA W.heap.size v = absV W.heap.size v := by cases v <;> first | rfl | exact absurd rfl (hc0 _)
  rw [ha]
  exact open_sl hs he hc hval h
theorem open_sl2 {W : World} {base : Nat} {t s e : TypeId} {k : IntKind} {f0 f1 : Field} {v : Value} {sp : Nat → Bool} {hd : Bool} {d : DataW H} {p : List MemPlace} (ht : P.underlying t = some (.struct #[f0, f1])) (o0 : f0.offset = 0) (o1 : f1.offset = 1) (t0 : f0.type = s) (t1 : f1.type = s)
    (hs : P.underlying s = some (.slice e)) (he : P.underlying e = some (.int k)) (hc : P.cellsOf e = 1) (hcs : P.cellsOf s = 1) (hct : P.cellsOf t = 2) (hts : P.cellTypes P.depth t = some [s, s])
    (hval : Value.okWide P W .any base t v) (h : DataW.Trod enc P W 0 sp hd t v d p) :
    ∃ (c0 c1 : Value) (xs ys : List Int), v = .agg #[c0, c1] ∧ SlW (hpW W) k (absV W.heap.size c0) xs ∧ SlW (hpW W) k (absV W.heap.size c1) ys ∧ (∀ z ∈ xs, (Lit.int k z).wf = true) ∧ ∀ z ∈ ys, (Lit.int k z).wf = true := by
  unfold Value.okWide at hval
  rw [ht] at hval
  obtain ⟨cs, rfl, hsz, ts, e1, _, hrow⟩ := hval
  rw [hts] at e1
  cases e1
  rw [hct] at hsz
  obtain ⟨l⟩ := cs
  simp only [List.size_toArray] at hsz
  obtain ⟨c0, c1, rfl⟩ := len2 hsz
  obtain ⟨fuel, h⟩ := h
  obtain ⟨y0, y1, n, _, _, h1, h2⟩ := Go.ChangeShapes.trod_struct2 ht h
  rw [o0, t0, hcs] at h1
  rw [o1, t1, hcs] at h2
  obtain ⟨u0, e0, k0⟩ := hrow 0 c0 rfl
  obtain ⟨u1, e1, k1⟩ := hrow 1 c1 rfl
  cases e0
  cases e1
  obtain ⟨xs, hx, wx, _⟩ := open_sl hs he hc k0 h1
  obtain ⟨ys, hy, wy, _⟩ := open_sl hs he hc k1 h2
  exact ⟨c0, c1, xs, ys, rfl, hx, hy, wx, wy⟩
end
end Go.Ab

end
