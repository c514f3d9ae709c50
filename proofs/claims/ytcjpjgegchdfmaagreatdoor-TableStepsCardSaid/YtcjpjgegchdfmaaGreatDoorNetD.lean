/- Nets, cells, flags: what the functions do (part 4). -/
import Derived.Test.YtcjpjgegchdfmaaGreatDoorNetC
import Derived.ChangeSlices
import Derived.ChangeArms
import Derived.ChangeSame
set_option linter.defProp false
set_option linter.unusedVariables false
set_option linter.unusedSimpArgs false
section
/- The law TableSteps, run. -/
set_option maxHeartbeats 4000000
set_option linter.unusedSimpArgs false
set_option linter.unusedVariables false
namespace Go.Ab
open Go.Proofs
set_option maxRecDepth 10000
set_option linter.defProp false
open Tryz in
def Tryz.FFts24 := aj a1 <| aj s1 <| aj z1 <| aj n1 <| aj u2 <| aj a2 <| aj s2 <| aj z2 <| aj i2 <| aj u3 <| aj a3 <| aj s3 <| aj z3 <| aj i3 <| aj u4 <| aj a4 <| aj s4 <| aj z4 <| aj n4 <| aj u5 <| aj a5 <| aj s5 <| aj z5 <| aj i5 <| aj u6 <| aj a6 <| aj s6 <| aj z6 <| aj i6 <| aj a7 <| aj s7 <| aj z7 <| aj i7 <| aj n7 <| aj p7 <| aj ff7 <| aj d7 <| aj a8 <| aj s8 <| aj z8 <| aj i8 <| aj n8 <| aj p8 <| aj ff8 <| aj d8 <| aj u9 <| aj a9 <| aj s9 <| aj z9 <| aj n9 <| aj u10 <| aj a10 <| aj s10 <| aj z10 <| aj n10 <| aj u11 <| aj a11 <| aj s11 <| aj z11 <| aj n11 <| aj u12 <| aj a12 <| aj s12 <| aj z12 <| aj i12 <| aj a13 <| aj s13 <| aj z13 <| aj i13 <| aj n13 <| aj p13 <| aj ff13 <| aj d13 <| aj a14 <| aj s14 <| aj z14 <| aj i14 <| aj n14 <| aj p14 <| aj ff14 <| aj d14 <| aj u15 <| aj a15 <| aj s15 <| aj z15 <| aj q15 <| aj i15 <| aj n15 <| aj u16 <| aj a16 <| aj s16 <| aj z16 <| aj q16 <| aj i16 <| aj n16 <| aj u17 <| aj a17 <| aj s17 <| aj z17 <| aj q17 <| aj i17 <| aj n17 <| aj a18 <| aj s18 <| aj z18 <| aj i18 <| aj n18 <| aj p18 <| aj ff18 <| aj d18 <| aj a19 <| aj s19 <| aj z19 <| aj i19 <| aj n19 <| aj p19 <| aj ff19 <| aj d19 <| aj a20 <| aj s20 <| aj z20 <| aj q20 <| aj n20 <| aj u21 <| aj a21 <| aj s21 <| aj z21 <| aj i21 <| aj u22 <| aj a22 <| aj s22 <| aj z22 <| aj q22 <| aj n22 <| aj u23 <| aj a23 <| aj s23 <| aj z23 <| aj q23 <| aj n23 <| aj u24 <| aj a24 <| aj s24 <| aj z24 <| aj q24 <| aj n24 <| aj u25 <| aj a25 <| aj s25 <| aj z25 <| aj q25 <| aj n25 <| aj a26 <| aj s26 <| aj z26 <| aj i26 <| aj n26 <| aj p26 <| aj ff26 <| aj d26 <| aj a27 <| aj s27 <| aj z27 <| aj i27 <| aj n27 <| aj p27 <| aj ff27 <| aj d27 <| aj a28 <| aj s28 <| aj z28 <| aj n28 <| aj u29 <| aj a29 <| aj s29 <| aj z29 <| aj q29 <| aj i29 <| aj n29 <| aj u31 <| aj a31 <| aj s31 <| aj z31 <| aj q31 <| aj n31 <| aj u32 <| aj a32 <| aj s32 <| aj z32 <| aj q32 <| aj i32 <| aj n32 <| aj u34 <| aj a34 <| aj s34 <| aj z34 <| aj q34 <| aj n34 <| aj u41 <| aj a41 <| aj s41 <| aj z41 <| aj i41 <| aj a48 <| aj s48 <| aj z48 <| aj i48 <| aj n48 <| aj p48 <| aj ff48 <| aj d48 <| aj a51 <| aj s51 <| aj z51 <| aj i51 <| aj n51 <| aj p51 <| aj ff51 <| aj d51 <| aj a86 <| aj s86 <| aj z86 <| aj i86 <| aj n86 <| aj p86 <| aj ff86 <| aj d86 <| aj u126 <| aj a126 <| aj s126 <| aj z126 <| aj q126 <| aj n126 <| aj a128 <| aj s128 <| aj z128 <| aj i128 <| aj n128 <| aj p128 <| aj ff128 <| aj d128 <| aj u199 <| aj a199 <| aj s199 <| aj z199 <| aj i199 <| aj u203 <| aj a203 <| aj s203 <| aj z203 <| aj i203 <| aj a237 <| aj s237 <| aj z237 <| aj i237 <| aj n237 <| aj p237 <| aj ff237 <| aj d237 <| aj u238 <| aj a238 <| aj s238 <| aj z238 <| aj n238 <| aj a240 <| aj s240 <| aj z240 <| aj i240 <| aj n240 <| aj u242 <| aj a242 <| aj s242 <| aj z242 <| aj i242 <| aj a243 <| aj s243 <| aj z243 <| aj n243 <| aj u244 <| aj a244 <| aj s244 <| aj z244 <| aj q244 <| aj i244 <| aj n244 <| aj u245 <| aj a245 <| aj s245 <| aj z245 <| aj i245 <| aj u246 <| aj a246 <| aj s246 <| aj z246 <| aj i246 <| aj a248 <| aj s248 <| aj z248 <| aj i248 <| aj n248 <| aj p248 <| aj ff248 <| d248
theorem worksTab_ok {h0 : Hp} (ok : h0.t.Sized h0.n) : Pure Tryz.abEnv 14 [] h0 (.bool true) := ret_orc rfl ⟨rfl, Gr.refl ok⟩
theorem exTo {h0 : Hp} (ok : h0.t.Sized h0.n) {γ : Gra} (hγ : Good γ) {pn : Value} {nb : Nat} (hn : NetAt h0 nb pn γ) {s : Nat} (hs : s < γ.nodes) (v : Nat) : IsD (seen γ.arcs Arc.t Arc.s) s v (dOf (seen γ.arcs Arc.t Arc.s) s v) := by
  obtain ⟨_, _, _, _, _, _, _, D, _, _, _, _, _, _, _, hD, _⟩ := floodTo_ok ok hγ hn hs
  exact (dOf_is (hD v)).2
theorem exFrom {h0 : Hp} (ok : h0.t.Sized h0.n) {γ : Gra} (hγ : Good γ) {pn : Value} {nb : Nat} (hn : NetAt h0 nb pn γ) {s : Nat} (hs : s < γ.nodes) (v : Nat) : IsD (seen γ.arcs Arc.s Arc.t) s v (dOf (seen γ.arcs Arc.s Arc.t) s v) := by
  obtain ⟨_, _, _, _, _, _, _, D, _, _, _, _, _, _, _, hD, _⟩ := floodFrom_ok ok hγ hn hs
  exact (dOf_is (hD v)).2
theorem rowD_len (B : List Arc) (N s : Nat) : (rowD B N s).length = N := by simp [rowD]
theorem rowD_at {B : List Arc} {N s v : Nat} (hv : v < N) : (rowD B N s).getD v 0 = (dOf B s v : Nat) := by simp [rowD, List.getD_eq_getElem?_getD, hv]
theorem tell_to {γ : Gra} {l : List Int} {i v : Nat} (hi : i < l.length) (hv : v < γ.nodes) : tellI γ.nodes l.length (toR γ l) i v = (dOf (seen γ.arcs Arc.t Arc.s) (l.getD i 0).toNat v : Nat) := by
  unfold tellI
  rw [if_pos ⟨by omega, by omega, by omega, by omega⟩, Int.toNat_natCast, Int.toNat_natCast]
  exact rowD_at hv
theorem tell_fr {γ : Gra} {l : List Int} {i v : Nat} (hi : i < l.length) (hv : v < γ.nodes) : tellI γ.nodes l.length (frR γ l) i v = (dOf (seen γ.arcs Arc.s Arc.t) (l.getD i 0).toNat v : Nat) := by
  unfold tellI
  rw [if_pos ⟨by omega, by omega, by omega, by omega⟩, Int.toNat_natCast, Int.toNat_natCast]
  exact rowD_at hv
theorem wyAdd {a b : Nat} (ha : a ≤ 72057594037927936) (hb : b ≤ 72057594037927936) : wy (wy (wy (a : Int)) + wy (b : Int)) = min (72057594037927936 : Int) ((a + b : Nat) : Int) := by
  unfold wy; omega
theorem tableStepsLaw_ok {h0 : Hp} (ok : h0.t.Sized h0.n) {vB vm : Value} {B ms : List Int} (hB : SlW h0 .u8 vB B) (hm : SlW h0 .u8 vm ms) (hr : ∀ x ∈ ms, 0 ≤ x ∧ x ≤ 255) (hml : ms.length ≤ 9223372036854775807) :
    Pure Tryz.abEnv 4 [vB, vm] h0 (.bool true) := by
  have S := St.init (M := NoM) ok
  have fm := hm.sl.fl
  refine enter_ret (n := 145) (rs := [.tmp 4]) rfl Tryz.e4 rfl rfl rfl (Nat.le_of_ble_eq_true rfl) ?_
  simp only [BS, List.map_nil, List.append_nil]
  refine step_pure (worksTab_ok S.ok) ?_; intro h g; replace S := S.call g; clear g
  simp only [BS, Nat.reduceLT, Nat.reduceEqDiff, if_true, if_false, List.map_cons, List.map_nil, List.append_nil, List.nil_append, Bool.not_true, eq_self]
  have hB' : SlW h .u8 vB B := hB.imp (fun h => h) (fun ⟨b, o, c, h1, h2, h3⟩ => ⟨b, o, c, h1, h2, S.old h3 (fun h => h)⟩)
  refine step_ret (drawn_ok S.ok hB') ?_; intro v h ⟨g, γ, vx, vy, va, er, hγ, ga, hz⟩; replace S := S.call g; clear g
  subst er
  have n1 := hγ.n1
  have n2 := hγ.n2
  have many := hγ.many
  have fx := ga.X.fl
  have fy := ga.Y.fl
  have fa := ga.A.fl
  have g0 := S.gr
  clear S hB'
  have S := St.init (M := NoM) g0.ok
  simp only [BS, Tryz.FFts24, rawV]
  refine step_newS allocR_new S ?_; clear S; intro h b5 S n_b5
  simp only [BS, Nat.reduceLT, Nat.reduceEqDiff, if_true, if_false, eq_self]
  refine step_u (S.store (i := 0) rfl Tryz.s27 (by intro x e; cases e) rfl (by simp only [vcells, List.all_cons, List.all_nil, fx.2.1, fy.2.1, fa.2.1, Bool.and_true]; rfl) (Nat.le_of_ble_eq_true rfl) Nat.one_ne_zero) ?_
  clear S; rintro h ⟨S, mo⟩
  simp only [List.set_cons_zero, List.set_cons_succ, vcells, lay, List.take, List.drop, List.nil_append, List.cons_append, List.append_nil, List.length_cons, List.length_nil, Nat.reduceAdd, Nat.add_zero] at S
  simp only [BS, Nat.reduceLT, Nat.reduceEqDiff, if_true, if_false, List.map_cons, List.map_nil, List.append_nil, List.nil_append, eq_self, Tryz.FFts24, List.drop_zero, List.take_succ_cons, List.take_zero, S.lds (b := b5) (o := 0) (n := 4) (by first | exact m0 | exact m1 | exact m2 | exact m3 | exact m4 | exact m5 | exact m6 | exact m7) (Nat.le_of_ble_eq_true rfl)]
  have ga2 := ga.gr S.gr
  have mk := made_ok S.ok hγ ga2
  unfold rawV at mk
  refine step_ret (mk) ?_; intro v h ⟨g, hp⟩; replace S := S.call g; replace ga2 := ga2.gr g; clear g
  obtain ⟨bp, ep⟩ : ∃ b, v = ptrTo b := by obtain ⟨b, _, _, _, _, _, e, _⟩ := hp.ex; exact ⟨b, e⟩
  subst ep
  simp only [BS, Nat.reduceLT, Nat.reduceEqDiff, if_true, if_false, List.map_cons, List.map_nil, List.append_nil, List.nil_append, eq_self, Tryz.FFts24, List.drop_zero, List.take_succ_cons, List.take_zero, S.lds (b := b5) (o := 0) (n := 4) (by first | exact m0 | exact m1 | exact m2 | exact m3 | exact m4 | exact m5 | exact m6 | exact m7) (Nat.le_of_ble_eq_true rfl)]
  have hm' : SlW h .u8 vm ms := hm.imp (fun h => h) (fun ⟨b, o, c, h1, h2, h3⟩ => ⟨b, o, c, h1, h2, (g0.trans S.gr).load h3⟩)
  have sm := some_ok S.ok hγ hm' hr hml fx fy fa
  unfold rawV at sm
  refine step_ret (sm) ?_; intro v h ⟨g, l, sl, hl, hlb⟩; replace S := S.call g; replace ga2 := ga2.gr g; replace hp := hp.gr g; clear g
  rename Value => vl
  simp only [BS, Nat.reduceLT, Nat.reduceEqDiff, if_true, if_false, List.map_cons, List.map_nil, List.append_nil, List.nil_append, eq_self]
  have l16 := hl.1
  refine step_ret (tabOf_ok S.ok hγ hp sl (by omega)) ?_; intro v h ⟨g, hT⟩; replace S := S.call g; replace ga2 := ga2.gr g; replace hp := hp.gr g; replace sl := sl.gr g; clear g
  replace hT := (hT.resolve_left (fun h => h.1 hl)).2
  rename Value => pt
  obtain ⟨bt, et⟩ : ∃ b, pt = ptrTo b := by obtain ⟨b, _, _, _, e, _⟩ := hT.ex; exact ⟨b, e⟩
  subst et
  simp only [BS, Nat.reduceLT, Nat.reduceEqDiff, if_true, if_false, List.map_cons, List.map_nil, List.append_nil, List.nil_append, List.getElem?_cons_zero, List.getElem?_cons_succ, Bool.not_false, eq_self, Tryz.FFts24]
  refine step_ret (tabMarks_ok S.ok hT (by omega)) ?_; intro v h ⟨g, slM, _⟩; replace S := S.call g; replace ga2 := ga2.gr g; replace hp := hp.gr g; replace sl := sl.gr g; replace hT := hT.gr g; clear g
  simp only [BS, Nat.reduceLT, Nat.reduceEqDiff, if_true, if_false, List.getElem?_cons_zero, List.getElem?_cons_succ, Bool.not_true, Bool.not_false, decide_true, eq_self, Tryz.FFts24, slM.lenq, sl.lenq]
  have r5 := S.row (b := b5) m0
  have r50 := r5.load1 (o := 0) rfl
  have r53 := r5.load1 (o := 3) rfl
  have g1 := g0.trans S.gr
  have okh := S.ok
  have eT := fun {s : Nat} (hs : s < γ.nodes) (v : Nat) => exTo okh hγ hp hs v
  have eF := fun {s : Nat} (hs : s < γ.nodes) (v : Nat) => exFrom okh hγ hp hs v
  have lR : ∀ i, i < l.length → (toR γ l i).length = γ.nodes := fun i _ => rowD_len _ _ _
  have lQ : ∀ i, i < l.length → (frR γ l i).length = γ.nodes := fun i _ => rowD_len _ _ _
  clear S g0 mo mk sm hm' slM hB hm hr hml
  have S := St.init (M := NoM) okh
  refine loop_ind (fun (i : Nat) ρ h' => i ≤ l.length ∧ St NoM h h' [] [] ∧ ρ 5 = ptrTo b5 ∧ ρ 6 = ptrTo bp ∧ ρ 7 = vl ∧ ρ 8 = ptrTo bt ∧ ρ 9 = .int .i64 i) (fun i => l.length - i) ?_ 0 _ _ ?_
  · clear S
    intro i ih ρ h ⟨hi, S, r5', r6, r7, r8, r9⟩
    have w : wrapI .i64 ((i : Int) + 1) = ((i + 1 : Nat) : Int) := by rw [wrap64] <;> omega
    by_cases hlt : i < l.length
    · obtain ⟨c, o, hidx, hld⟩ := sl.ix (kd := .i64) (encI_len .i64) hlt
      have gd : l.getD i 0 = l[i] := by simp [List.getD_eq_getElem?_getD, hlt]
      have hsb := hl.2 i hlt
      obtain ⟨s, es⟩ : ∃ s : Nat, l.getD i 0 = s := ⟨(l.getD i 0).toNat, by omega⟩
      rw [← gd, es] at hld
      rw [es] at hsb
      have hsN : s < γ.nodes := by omega
      have t0 : tellI γ.nodes l.length (toR γ l) i s = 0 := by rw [tell_to hlt hsN, es, Int.toNat_natCast, (eT hsN s).self]; rfl
      have t1 : tellI γ.nodes l.length (frR γ l) i s = 0 := by rw [tell_fr hlt hsN, es, Int.toNat_natCast, (eF hsN s).self]; rfl
      simp only [BS, Nat.reduceLT, Nat.reduceEqDiff, if_true, if_false, List.map_cons, List.map_nil, List.append_nil, List.nil_append, decide_true, eq_self, Tryz.FFts24, r7, r8, r9, sl.lenq, lt_nat, hlt, hidx, S.old hld (fun h => h), encI]
      refine step_pure (tabTo_ok S.ok (hT.gr S.gr) lR) ?_; intro h g; replace S := S.call g; clear g
      simp only [BS, Nat.reduceLT, Nat.reduceEqDiff, if_true, if_false, List.map_cons, List.map_nil, List.append_nil, List.nil_append, List.getElem?_cons_zero, List.getElem?_cons_succ, Bool.not_true, Bool.not_false, decide_true, eq_self, Tryz.FFts24, r7, r8, r9, hidx, S.old hld (fun h => h), encI, t0]
      refine step_pure (tabFrom_ok S.ok (hT.gr S.gr) lQ) ?_; intro h g; replace S := S.call g; clear g
      simp only [BS, Nat.reduceLT, Nat.reduceEqDiff, if_true, if_false, List.getElem?_cons_zero, List.getElem?_cons_succ, Bool.not_true, Bool.not_false, decide_true, eq_self, t1]
      refine draw_step (hoist_yes (ord := [12, 13, 0, 1, 2, 3, 4, 5, 6, 7, 8, 9, 10, 11, 14, 15]) rfl rfl (by simp only [pickL, reix, posOf, List.getElem?_cons_zero, List.getElem?_cons_succ, List.map_toArray, List.map_cons, List.map_nil, Nat.reduceBEq, cond_true, cond_false]; exact rfl)) (q := 3) (ps := [(1, 13), (0, 13), (7, 12), (1, 7), (0, 7)]) (by kernel_rfl) ?_
      simp only [BS, cls, Nat.reducePow, Nat.reduceDiv, Nat.reduceMod, Nat.reduceLeDiff, Bool.and_true, Nat.zero_add, decide_true, eq_self, Tryz.FFts24]
      refine dq_newS allocR_new S ?_; clear S; intro h b10 S n_b10 e_b10
      simp only [BS, cls, Nat.reducePow, Nat.reduceDiv, Nat.reduceMod, Nat.reduceLeDiff, Bool.and_true, Nat.zero_add, decide_true, eq_self, Tryz.FFts24]
      refine dq_newS allocR_new S ?_; clear S; intro h b11 S n_b11 e_b11
      simp only [BS, cls, Nat.reduceLT, Nat.reduceEqDiff, Nat.reduceAdd, if_true, if_false, List.map_cons, List.map_nil, List.append_nil, List.nil_append, Nat.reducePow, Nat.reduceDiv, Nat.reduceMod, Nat.reduceLeDiff, Bool.and_true, Bool.and_false, decide_true, decide_false, eq_self, Tryz.FFts24, r6, r7, r9, hidx, S.old hld (fun h => h), encI]
      have ltc := lt_of_load S.ok (S.old hld (fun h => h))
      have lt10 := (S.row (b := b10) m1).lt S.ok
      have lt11 := (S.row (b := b11) m0).lt S.ok
      refine dn_ret (floodTo_ok S.ok hγ (hp.gr S.gr) hsN) ?_
      rintro v h ⟨g, T1⟩
      have p1 : leaves _ _ c = true := leaves_gr g ltc
      have p2 : leaves _ _ b10 = true := leaves_gr g lt10
      have p3 : leaves _ _ b11 = true := leaves_gr g lt11
      have k1 := S.fr.n
      have kk := fun {c} (hc : c ∈ _) => S.key_lt (b := c) hc
      replace S := S.call g; clear g
      simp only [BS, cls, Nat.reduceLT, Nat.reduceEqDiff, Nat.reduceAdd, if_true, if_false, List.map_cons, List.map_nil, List.append_nil, List.nil_append, Nat.reducePow, Nat.reduceDiv, Nat.reduceMod, Nat.reduceLeDiff, Bool.and_true, Bool.and_false, decide_true, decide_false, eq_self, Tryz.FFts24, r6, r7, r9, hidx, S.old hld (fun h => h), encI]
      refine dn_ret (floodFrom_ok S.ok hγ (hp.gr S.gr) hsN) ?_
      rintro v2 h ⟨g, T2⟩
      obtain ⟨vD, vA, vO, D, aL, O, rfl, s1, s2, s3, t4, t5, t6, t7, t8⟩ := T1
      obtain ⟨vD', vA', vO', D', aL', O', rfl, s1', s2', s3', t4', t5', t6', t7', t8'⟩ := T2
      have k2 := S.fr.n
      have kk2 := fun {c} (hc : c ∈ _) => S.key_lt (b := c) hc
      have p4 : leaves _ _ b10 = true := leaves_gr g (kk2 (by simp [keys]))
      have p5 : leaves _ _ b11 = true := leaves_gr g (kk2 (by simp [keys]))
      replace S := S.call g
      replace s1 := s1.gr g
      clear g
      have f1 := s1.fl
      have f2 := s2.fl
      have f3 := s3.fl
      have f1' := s1'.fl
      have f2' := s2'.fl
      have f3' := s3'.fl
      simp only [BS, cls, Nat.reduceLT, Nat.reduceEqDiff, Nat.reduceAdd, if_true, if_false, Nat.reducePow, Nat.reduceDiv, Nat.reduceMod, Nat.reduceLeDiff, Bool.and_false, decide_false, eq_self]
      refine dn_u (S.store (i := 1) rfl Tryz.s48 (by intro x e; cases e) rfl (by simp only [vcells, List.all_cons, List.all_nil, f1.2.1, f2.2.1, f3.2.1, Bool.and_true]) (Nat.le_of_ble_eq_true rfl) Nat.one_ne_zero) ?_
      clear S; rintro h ⟨S, mo⟩
      simp only [List.set_cons_zero, List.set_cons_succ, vcells, lay, List.take, List.drop, List.nil_append, List.cons_append, List.append_nil, List.length_cons, List.length_nil, Nat.reduceAdd, Nat.add_zero] at S
      replace s1 := s1.mo mo (fun c hc e => by have := t6 c (.inl hc); have := kk (c := b10) (by simp [keys]); omega)
      replace s1' := s1'.mo mo (fun c hc e => by have := t6' c (.inl hc); have := kk2 (c := b10) (by simp [keys]); omega)
      clear mo
      simp only [BS, cls, Nat.reduceLT, Nat.reduceEqDiff, Nat.reduceAdd, if_true, if_false, Nat.reducePow, Nat.reduceDiv, Nat.reduceMod, Nat.reduceLeDiff, Bool.and_false, decide_false, eq_self]
      refine dn_u (S.store (i := 0) rfl Tryz.s48 (by intro x e; cases e) rfl (by simp only [vcells, List.all_cons, List.all_nil, f1'.2.1, f2'.2.1, f3'.2.1, Bool.and_true]) (Nat.le_of_ble_eq_true rfl) Nat.one_ne_zero) ?_
      clear S; rintro h ⟨S, mo⟩
      simp only [List.set_cons_zero, List.set_cons_succ, vcells, lay, List.take, List.drop, List.nil_append, List.cons_append, List.append_nil, List.length_cons, List.length_nil, Nat.reduceAdd, Nat.add_zero] at S
      replace s1 := s1.mo mo (fun c hc e => by have := t6 c (.inl hc); have := kk (c := b11) (by simp [keys]); omega)
      replace s1' := s1'.mo mo (fun c hc e => by have := t6' c (.inl hc); have := kk2 (c := b11) (by simp [keys]); omega)
      clear mo
      simp only [BS, Nat.reduceAdd]
      refine ⟨by simp only [pairs_cons, pairs_nil, entry_noted, entry_hit, entry_miss, ne_eq, not_false_eq_true, note_load, note_run, note_alloc, noted_some, ll_tmp, ll_put, setR_at, Nat.reduceLT, Nat.reduceEqDiff, reduceIte, Bool.and_true, r5', r6, r7, r8, r9, ptr_eq, ← e_b10, ← e_b11, pair_rb p1, pair_br p2, pair_br p3, pair_br p4, pair_br p5], ?_⟩
      clear p1 p2 p3 p4 p5 kk kk2 k1 k2 e_b10 e_b11
      have q10 := (S.row (b := b10) m1).load1 (o := 0) rfl
      have q11 := (S.row (b := b11) m0).load1 (o := 0) rfl
      have gS := S.gr
      have okS := S.ok
      clear S
      have S := St.init (M := NoM) okS
      rename Hp => hC
      refine loop_ind (fun (v : Nat) ρ h' => v ≤ γ.nodes ∧ St NoM hC h' [] [] ∧ ρ 5 = ptrTo b5 ∧ ρ 6 = ptrTo bp ∧ ρ 7 = vl ∧ ρ 8 = ptrTo bt ∧ ρ 9 = .int .i64 i ∧ ρ 10 = ptrTo b10 ∧ ρ 11 = ptrTo b11 ∧ ρ 12 = .int .i64 v) (fun v => γ.nodes - v) ?_ 0 _ _ ?_
      · clear S r5' r6 r7 r8 r9
        intro v ihv ρ h ⟨hv, S, r5', r6, r7, r8, r9, r10, r11, r12⟩
        have wv : wrapI .i64 ((v : Int) + 1) = ((v + 1 : Nat) : Int) := by rw [wrap64] <;> omega
        by_cases hvt : v < γ.nodes
        · have tv0 : tellI γ.nodes l.length (toR γ l) i v = (D v : Nat) := by rw [tell_to hlt hvt, es, Int.toNat_natCast, (dOf_is (t5 v)).1]
          have tv1 : tellI γ.nodes l.length (frR γ l) i v = (D' v : Nat) := by rw [tell_fr hlt hvt, es, Int.toNat_natCast, (dOf_is (t5' v)).1]
          obtain ⟨c1, o1, x1, y1⟩ := s1.ix (kd := .i64) encN_len (i := v) (by simpa using hvt)
          obtain ⟨c2, o2, x2, y2⟩ := s1'.ix (kd := .i64) encN_len (i := v) (by simpa using hvt)
          have y1' : hC.load c1 o1 1 = some [.int .i64 (D v : Nat)] := by rw [y1]; simp [encN]
          have y2' : hC.load c2 o2 1 = some [.int .i64 (D' v : Nat)] := by rw [y2]; simp [encN]
          simp only [BS, Nat.add_zero, Nat.reduceLT, Nat.reduceEqDiff, if_true, if_false, decide_true, eq_self, Tryz.FFts24, r5', r12, S.old (gS.load r50) (fun h => h), lt_nat, hvt]
          refine draw_step (hoist_no rfl) (q := 0) (ps := [(14, 19), (14, 16), (3, 8), (3, 5)]) (by kernel_rfl) ?_
          simp only [BS, cls, Nat.reduceLT, Nat.reduceEqDiff, Nat.reduceAdd, if_true, if_false, List.map_cons, List.map_nil, List.append_nil, List.nil_append, Nat.reducePow, Nat.reduceDiv, Nat.reduceMod, Nat.reduceLeDiff, Bool.and_true, Bool.and_false, Nat.zero_add, decide_true, decide_false, eq_self, r8, r9, r12]
          refine dn_pure (tabTo_ok S.ok (hT.gr (gS.trans S.gr)) lR) ?_
          have z10 := lt_of_load S.ok (S.old q10 (fun h => h))
          have z11 := lt_of_load S.ok (S.old q11 (fun h => h))
          have zc1 := lt_of_load S.ok (S.old y1' (fun h => h))
          have zc2 := lt_of_load S.ok (S.old y2' (fun h => h))
          intro h g
          have p1 : leaves _ _ b10 = true := leaves_gr g z10
          have p2 : leaves _ _ b11 = true := leaves_gr g z11
          have p3 : leaves _ _ c1 = true := leaves_gr g zc1
          have p4 : leaves _ _ c2 = true := leaves_gr g zc2
          have gn := g.n
          replace S := S.call g; clear g
          simp only [BS, cls, Nat.add_zero, Nat.reduceLT, Nat.reduceEqDiff, Nat.reduceAdd, if_true, if_false, List.map_cons, List.map_nil, List.append_nil, List.nil_append, List.getElem?_cons_zero, List.getElem?_cons_succ, Nat.reducePow, Nat.reduceDiv, Nat.reduceMod, Nat.reduceLeDiff, Bool.and_true, Bool.and_false, Bool.not_true, Bool.not_false, decide_true, decide_false, eq_self, Tryz.FFts24, r8, r9, r10, r12, S.old q10 (fun h => h), x1, S.old y1' (fun h => h), tv0]
          refine dn_pure (tabFrom_ok S.ok (hT.gr (gS.trans S.gr)) lQ) ?_
          intro h g
          have p5 : leaves _ _ b10 = true := leaves_gr g (Nat.lt_of_lt_of_le z10 gn)
          have p6 : leaves _ _ b11 = true := leaves_gr g (Nat.lt_of_lt_of_le z11 gn)
          have p7 : leaves _ _ c1 = true := leaves_gr g (Nat.lt_of_lt_of_le zc1 gn)
          have p8 : leaves _ _ c2 = true := leaves_gr g (Nat.lt_of_lt_of_le zc2 gn)
          replace S := S.call g; clear g
          simp only [BS, cls, Nat.add_zero, Nat.reduceLT, Nat.reduceEqDiff, Nat.reduceAdd, if_true, if_false, List.getElem?_cons_zero, List.getElem?_cons_succ, Nat.reducePow, Nat.reduceDiv, Nat.reduceMod, Nat.reduceLeDiff, Bool.and_false, Bool.not_true, Bool.not_false, decide_true, decide_false, eq_self, Tryz.FFts24, r11, r12, S.old q11 (fun h => h), x2, S.old y2' (fun h => h), tv1, wv]
          refine ⟨by simp only [pairs_cons, pairs_nil, entry_noted, entry_hit, entry_miss, ne_eq, not_false_eq_true, note_load, note_run, note_alloc, noted_some, ll_tmp, ll_put, setR_at, Nat.reduceLT, Nat.reduceEqDiff, reduceIte, Bool.and_true, r5', r6, r7, r8, r9, r10, r11, r12, ptr_eq, pair_rb p1, pair_rb p2, pair_rb p3, pair_rb p4, pair_rb p5, pair_rb p6, pair_rb p7, pair_rb p8, pair_br p1, pair_br p2, pair_br p3, pair_br p4, pair_br p5, pair_br p6, pair_br p7, pair_br p8], ?_⟩
          exact ihv (v + 1) _ _ (by omega) ⟨by omega, S, by simp [setR, r5', ptr_eq], by simp [setR, r6, ptr_eq], by simp [setR, r7], by simp [setR, r8, ptr_eq], by simp [setR, r9], by simp [setR, r10, ptr_eq], by simp [setR, r11, ptr_eq], by simp [setR]⟩
        · simp only [BS, tupleOf, Nat.add_zero, Nat.reduceLT, Nat.reduceEqDiff, if_true, if_false, true_and, decide_false, eq_self, Tryz.FFts24, r5', r9, r12, S.old (gS.load r50) (fun h => h), lt_nat, hvt]
          refine loop_ind (fun (k : Nat) ρ h' => k ≤ γ.arcs.length ∧ St NoM hC h' [] [] ∧ ρ 5 = ptrTo b5 ∧ ρ 6 = ptrTo bp ∧ ρ 7 = vl ∧ ρ 8 = ptrTo bt ∧ ρ 9 = .int .i64 i ∧ ρ 13 = .int .i64 k) (fun k => γ.arcs.length - k) ?_ 0 _ _ ?_
          · clear S r5' r6 r7 r8 r9 r10 r11 r12
            intro k ihk ρ h ⟨hk, S, r5', r6, r7, r8, r9, r13⟩
            have wk : wrapI .i64 ((k : Int) + 1) = ((k + 1 : Nat) : Int) := by rw [wrap64] <;> omega
            have gaC := ga2.A.gr gS
            by_cases hkt : k < γ.arcs.length
            · obtain ⟨c3, o3, x3, y3⟩ := gaC.ix (kd := .i64) encA_len hkt
              simp only [BS, Nat.reduceLT, Nat.reduceEqDiff, if_true, if_false, Nat.zero_add, decide_true, eq_self, Tryz.FFts24, r5', r13, S.old (gS.load r53) (fun h => h), gaC.lenq, lt_nat, hkt, x3, S.old y3 (fun h => h)]
              refine step_newS allocR_new S ?_; clear S; intro h b14 S n_b14
              simp only [BS, Nat.reduceLT, Nat.reduceEqDiff, if_true, if_false, eq_self, encA]
              first | refine step_u (S.store (i := 0) rfl ?_ ?_ rfl rfl ?_ Nat.one_ne_zero) ?_ | refine step_u (S.store (i := 1) rfl ?_ ?_ rfl rfl ?_ Nat.one_ne_zero) ?_ | refine step_u (S.store (i := 2) rfl ?_ ?_ rfl rfl ?_ Nat.one_ne_zero) ?_ | refine step_u (S.store (i := 3) rfl ?_ ?_ rfl rfl ?_ Nat.one_ne_zero) ?_ | refine step_u (S.store (i := 4) rfl ?_ ?_ rfl rfl ?_ Nat.one_ne_zero) ?_ | refine step_u (S.store (i := 5) rfl ?_ ?_ rfl rfl ?_ Nat.one_ne_zero) ?_ | refine step_u (S.store (i := 6) rfl ?_ ?_ rfl rfl ?_ Nat.one_ne_zero) ?_ | refine step_u (S.store (i := 7) rfl ?_ ?_ rfl rfl ?_ Nat.one_ne_zero) ?_
              · exact (by first | exact Tryz.s7 | exact Tryz.s8 | exact Tryz.s13 | exact Tryz.s14 | exact Tryz.s18 | exact Tryz.s19 | exact Tryz.s26 | exact Tryz.s27 | exact Tryz.s48 | exact Tryz.s51 | exact Tryz.s86 | exact Tryz.s128 | exact Tryz.s237 | exact Tryz.s238 | exact Tryz.s240 | exact Tryz.s248)
              · exact (by intro x e; cases e)
              · exact Nat.le_of_ble_eq_true rfl
              clear S; rintro h ⟨S, mo⟩; clear mo; simp only [List.set_cons_zero, List.set_cons_succ, vcells, lay, List.take, List.drop, List.nil_append, List.cons_append, List.append_nil, List.length_cons, List.length_nil, Nat.reduceAdd, Nat.add_zero] at S
              simp only [BS]
              refine draw_step (hoist_no rfl) (q := 0) (ps := [(24, 26), (19, 26), (19, 23), (6, 11), (4, 10), (4, 6)]) (by kernel_rfl) ?_
              simp only [BS, cls, Nat.add_zero, Nat.reduceLT, Nat.reduceEqDiff, Nat.reduceAdd, if_true, if_false, List.map_cons, List.map_nil, List.append_nil, List.nil_append, Nat.reducePow, Nat.reduceDiv, Nat.reduceMod, Nat.reduceLeDiff, Bool.and_true, Bool.and_false, Nat.zero_add, decide_true, decide_false, eq_self, Tryz.FFts24, r8, r9, S.ld (b := b14) (o := 0) (by first | exact m0 | exact m1 | exact m2 | exact m3 | exact m4 | exact m5 | exact m6 | exact m7) rfl]
              have am := List.getElem_mem hkt
              have ab := hγ.arcs _ am
              have agd : γ.arcs.getD k default = γ.arcs[k] := by simp [List.getD_eq_getElem?_getD, hkt]
              have ta1 : tellI γ.nodes l.length (toR γ l) i (γ.arcs[k].s : Nat) = (dOf (seen γ.arcs Arc.t Arc.s) s γ.arcs[k].s : Nat) := by rw [tell_to hlt ab.1, es, Int.toNat_natCast]
              have ta2 : tellI γ.nodes l.length (toR γ l) i (γ.arcs[k].t : Nat) = (dOf (seen γ.arcs Arc.t Arc.s) s γ.arcs[k].t : Nat) := by rw [tell_to hlt ab.2.1, es, Int.toNat_natCast]
              have tf1 : tellI γ.nodes l.length (frR γ l) i (γ.arcs[k].s : Nat) = (dOf (seen γ.arcs Arc.s Arc.t) s γ.arcs[k].s : Nat) := by rw [tell_fr hlt ab.1, es, Int.toNat_natCast]
              have tf2 : tellI γ.nodes l.length (frR γ l) i (γ.arcs[k].t : Nat) = (dOf (seen γ.arcs Arc.s Arc.t) s γ.arcs[k].t : Nat) := by rw [tell_fr hlt ab.2.1, es, Int.toNat_natCast]
              have ca : ¬ (wy (wy (wy ((γ.arcs[k].w : Nat) : Int)) + wy ((dOf (seen γ.arcs Arc.t Arc.s) s γ.arcs[k].t : Nat) : Int)) < ((dOf (seen γ.arcs Arc.t Arc.s) s γ.arcs[k].s : Nat) : Int)) := by
                have hd1 := (eT hsN γ.arcs[k].s).le
                have hd2 := (eT hsN γ.arcs[k].t).le
                have hF := FAR_eq
                rw [wyAdd (by omega) (by omega)]
                obtain ⟨e1, e2⟩ := seen_at (fs := Arc.t) (ft := Arc.s) hkt
                rw [agd] at e1
                rw [e1] at e2
                have := IsD.arc e2 (eT hsN _) (eT hsN _)
                simp only [] at this
                omega
              have cf : ¬ (wy (wy (wy ((dOf (seen γ.arcs Arc.s Arc.t) s γ.arcs[k].s : Nat) : Int)) + wy ((γ.arcs[k].w : Nat) : Int)) < ((dOf (seen γ.arcs Arc.s Arc.t) s γ.arcs[k].t : Nat) : Int)) := by
                have hd1 := (eF hsN γ.arcs[k].s).le
                have hd2 := (eF hsN γ.arcs[k].t).le
                have hF := FAR_eq
                rw [wyAdd (by omega) (by omega)]
                obtain ⟨e1, e2⟩ := seen_at (fs := Arc.s) (ft := Arc.t) hkt
                rw [agd] at e1
                rw [e1] at e2
                have := IsD.arc e2 (eF hsN _) (eF hsN _)
                simp only [] at this
                omega
              refine dn_pure (tabTo_ok S.ok (hT.gr (gS.trans S.gr)) lR) ?_
              intro h g
              have u1 : leaves _ _ b14 = true := leaves_gr g ((S.row (b := b14) m0).lt S.ok)
              replace S := S.call g; clear g
              simp only [BS, cls, Nat.reduceLT, Nat.reduceEqDiff, Nat.reduceAdd, if_true, if_false, List.map_cons, List.map_nil, List.append_nil, List.nil_append, Nat.reducePow, Nat.reduceDiv, Nat.reduceMod, Nat.reduceLeDiff, Bool.and_true, Bool.and_false, Nat.zero_add, decide_true, decide_false, eq_self, Tryz.FFts24, r8, r9, ta1, S.ld (b := b14) (o := 0) (by first | exact m0 | exact m1 | exact m2 | exact m3 | exact m4 | exact m5 | exact m6 | exact m7) rfl, S.ld (b := b14) (o := 1) (by first | exact m0 | exact m1 | exact m2 | exact m3 | exact m4 | exact m5 | exact m6 | exact m7) rfl, S.ld (b := b14) (o := 2) (by first | exact m0 | exact m1 | exact m2 | exact m3 | exact m4 | exact m5 | exact m6 | exact m7) rfl]
              refine dn_pure (tabTo_ok S.ok (hT.gr (gS.trans S.gr)) lR) ?_
              intro h g
              have u2 : leaves _ _ b14 = true := leaves_gr g ((S.row (b := b14) m0).lt S.ok)
              replace S := S.call g; clear g
              simp only [BS, cls, Nat.reduceLT, Nat.reduceEqDiff, Nat.reduceAdd, if_true, if_false, List.map_cons, List.map_nil, List.append_nil, List.nil_append, Nat.reducePow, Nat.reduceDiv, Nat.reduceMod, Nat.reduceLeDiff, Bool.and_true, decide_true, decide_false, eq_self, ta2, S.ld (b := b14) (o := 0) (by first | exact m0 | exact m1 | exact m2 | exact m3 | exact m4 | exact m5 | exact m6 | exact m7) rfl, S.ld (b := b14) (o := 1) (by first | exact m0 | exact m1 | exact m2 | exact m3 | exact m4 | exact m5 | exact m6 | exact m7) rfl, S.ld (b := b14) (o := 2) (by first | exact m0 | exact m1 | exact m2 | exact m3 | exact m4 | exact m5 | exact m6 | exact m7) rfl]
              refine dn_pure (add_ok S.ok) ?_
              intro h g
              have u3 : leaves _ _ b14 = true := leaves_gr g ((S.row (b := b14) m0).lt S.ok)
              replace S := S.call g; clear g
              simp only [BS, cls, Nat.reduceLT, Nat.reduceEqDiff, Nat.reduceAdd, if_true, if_false, List.map_cons, List.map_nil, List.append_nil, List.nil_append, List.getElem?_cons_zero, List.getElem?_cons_succ, Nat.reducePow, Nat.reduceDiv, Nat.reduceMod, Nat.reduceLeDiff, Bool.and_true, Bool.and_false, Nat.zero_add, Bool.not_false, decide_true, decide_false, eq_self, Tryz.FFts24, r8, r9, ca, S.ld (b := b14) (o := 0) (by first | exact m0 | exact m1 | exact m2 | exact m3 | exact m4 | exact m5 | exact m6 | exact m7) rfl, S.ld (b := b14) (o := 1) (by first | exact m0 | exact m1 | exact m2 | exact m3 | exact m4 | exact m5 | exact m6 | exact m7) rfl, S.ld (b := b14) (o := 2) (by first | exact m0 | exact m1 | exact m2 | exact m3 | exact m4 | exact m5 | exact m6 | exact m7) rfl]
              refine dn_pure (tabFrom_ok S.ok (hT.gr (gS.trans S.gr)) lQ) ?_
              intro h g
              have u4 : leaves _ _ b14 = true := leaves_gr g ((S.row (b := b14) m0).lt S.ok)
              replace S := S.call g; clear g
              simp only [BS, cls, Nat.add_zero, Nat.reduceLT, Nat.reduceEqDiff, Nat.reduceAdd, if_true, if_false, List.map_cons, List.map_nil, List.append_nil, List.nil_append, List.getElem?_cons_zero, List.getElem?_cons_succ, Nat.reducePow, Nat.reduceDiv, Nat.reduceMod, Nat.reduceLeDiff, Bool.and_true, Bool.and_false, Bool.not_false, decide_true, decide_false, eq_self, Tryz.FFts24, r8, r9, tf2, S.ld (b := b14) (o := 0) (by first | exact m0 | exact m1 | exact m2 | exact m3 | exact m4 | exact m5 | exact m6 | exact m7) rfl, S.ld (b := b14) (o := 1) (by first | exact m0 | exact m1 | exact m2 | exact m3 | exact m4 | exact m5 | exact m6 | exact m7) rfl, S.ld (b := b14) (o := 2) (by first | exact m0 | exact m1 | exact m2 | exact m3 | exact m4 | exact m5 | exact m6 | exact m7) rfl]
              refine dn_pure (tabFrom_ok S.ok (hT.gr (gS.trans S.gr)) lQ) ?_
              intro h g
              have u5 : leaves _ _ b14 = true := leaves_gr g ((S.row (b := b14) m0).lt S.ok)
              replace S := S.call g; clear g
              simp only [BS, cls, Nat.reduceLT, Nat.reduceEqDiff, Nat.reduceAdd, if_true, if_false, List.map_cons, List.map_nil, List.append_nil, List.nil_append, List.getElem?_cons_zero, List.getElem?_cons_succ, Nat.reducePow, Nat.reduceDiv, Nat.reduceMod, Nat.reduceLeDiff, Bool.and_true, Bool.and_false, Nat.zero_add, Bool.not_false, decide_true, decide_false, eq_self, Tryz.FFts24, tf1, S.ld (b := b14) (o := 0) (by first | exact m0 | exact m1 | exact m2 | exact m3 | exact m4 | exact m5 | exact m6 | exact m7) rfl, S.ld (b := b14) (o := 1) (by first | exact m0 | exact m1 | exact m2 | exact m3 | exact m4 | exact m5 | exact m6 | exact m7) rfl, S.ld (b := b14) (o := 2) (by first | exact m0 | exact m1 | exact m2 | exact m3 | exact m4 | exact m5 | exact m6 | exact m7) rfl]
              refine dn_pure (add_ok S.ok) ?_
              intro h g
              have u6 : leaves _ _ b14 = true := leaves_gr g ((S.row (b := b14) m0).lt S.ok)
              replace S := S.call g; clear g
              simp only [BS, cls, Nat.reduceLT, Nat.reduceEqDiff, Nat.reduceAdd, if_true, if_false, List.getElem?_cons_zero, List.getElem?_cons_succ, Nat.reducePow, Nat.reduceDiv, Nat.reduceMod, Nat.reduceLeDiff, Bool.and_false, Bool.not_false, decide_false, eq_self, r13, cf, wk, S.ld (b := b14) (o := 0) (by first | exact m0 | exact m1 | exact m2 | exact m3 | exact m4 | exact m5 | exact m6 | exact m7) rfl, S.ld (b := b14) (o := 1) (by first | exact m0 | exact m1 | exact m2 | exact m3 | exact m4 | exact m5 | exact m6 | exact m7) rfl, S.ld (b := b14) (o := 2) (by first | exact m0 | exact m1 | exact m2 | exact m3 | exact m4 | exact m5 | exact m6 | exact m7) rfl]
              refine ⟨by simp only [pairs_cons, pairs_nil, entry_noted, entry_hit, entry_miss, ne_eq, not_false_eq_true, note_load, note_run, note_alloc, noted_some, ll_tmp, ll_put, setR_at, Nat.reduceLT, Nat.reduceEqDiff, reduceIte, Bool.and_true, r5', r6, r7, r8, r9, r13, ptr_eq, pair_rb u1, pair_rb u2, pair_rb u3, pair_rb u4, pair_rb u5, pair_rb u6, pair_br u1, pair_br u2, pair_br u3, pair_br u4, pair_br u5, pair_br u6], ?_⟩
              exact ihk (k + 1) _ _ (by omega) ⟨by omega, S.drop1, by simp [setR, r5', ptr_eq], by simp [setR, r6, ptr_eq], by simp [setR, r7], by simp [setR, r8, ptr_eq], by simp [setR, r9], by simp [setR]⟩
            · simp only [BS, tupleOf, Nat.reduceLT, Nat.reduceEqDiff, if_true, if_false, Nat.zero_add, true_and, decide_false, eq_self, Tryz.FFts24, r5', r9, r13, S.old (gS.load r53) (fun h => h), gaC.lenq, lt_nat, hkt, w]
              exact ih (i + 1) _ _ (by omega) ⟨by omega, St.init (M := NoM) okh |>.call (gS.trans S.gr), by simp [setR, r5', ptr_eq], by simp [setR, r6, ptr_eq], by simp [setR, r7], by simp [setR, r8, ptr_eq], by simp [setR]⟩
          · exact ⟨Nat.zero_le _, S, by simp [setR, r5', ptr_eq], by simp [setR, r6, ptr_eq], by simp [setR, r7], by simp [setR, r8, ptr_eq], by simp [setR, r9], by simp [setR]⟩
      · exact ⟨Nat.zero_le _, S, by simp [setR, r5', ptr_eq], by simp [setR, r6, ptr_eq], by simp [setR, r7], by simp [setR, r8, ptr_eq], by simp [setR, r9], by simp [setR, ptr_eq], by simp [setR, ptr_eq], by simp [setR]⟩
    · simp only [BS, tupleOf, Nat.reduceLT, Nat.reduceEqDiff, if_true, if_false, true_and, decide_false, eq_self, Tryz.FFts24, r7, r9, sl.lenq, lt_nat, hlt]
      exact g1.trans S.gr
  · exact ⟨Nat.zero_le _, S, by simp [setR, ptr_eq], by simp [setR, ptr_eq], by simp [setR], by simp [setR, ptr_eq], by simp [setR]⟩
end Go.Ab

end
section
/- Slices of the world, opened. -/
namespace Go.Ab
open Go.ChangeShapes Go.WideShapes Go.RowKit
theorem rowAt_le {P : Program} {fits : TypeId → Bool} {d : Nat} {e : TypeId} {count off n : Nat} (h : rowAt P fits d e count off n = true) : off ≤ count * P.cellsOf e := by
  cases d with
  | zero => cases h
  | succ d =>
    unfold rowAt at h
    simp only [] at h
    split at h
    · cases h
    · rename_i hs
      have hpos : 0 < P.cellsOf e := by omega
      have hdm := Nat.div_add_mod off (P.cellsOf e)
      simp only [Bool.or_eq_true, Bool.and_eq_true, beq_iff_eq, decide_eq_true_eq] at h
      rcases h with ⟨⟨h1, h2⟩, _⟩ | ⟨h1, _⟩
      · have : P.cellsOf e * (off / P.cellsOf e) ≤ P.cellsOf e * count := Nat.mul_le_mul_left _ (by omega)
        rw [Nat.mul_comm count]; omega
      · have : P.cellsOf e * (off / P.cellsOf e + 1) ≤ P.cellsOf e * count := Nat.mul_le_mul_left _ (by omega)
        have hlt := Nat.mod_lt off hpos
        rw [Nat.mul_add, Nat.mul_one] at this
        rw [Nat.mul_comm count]; omega
theorem liesAt_le {P : Program} {d : Nat} : ∀ {e : TypeId} {count off : Nat} {u : TypeId} {n : Nat}, liesAt P d e count off u n = true → off ≤ count * P.cellsOf e := by
  induction d with
  | zero => intro e count off u n h; cases h
  | succ d ih =>
    intro e count off u n h
    unfold liesAt at h
    rw [Bool.or_eq_true] at h
    rcases h with h | h
    · exact rowAt_le h
    · split at h
      · exact ih h
      · cases h
theorem has_W {P : Program} {W : World} {r : _root_.Go.Reach} {base : Nat} {a : Addr} {e : TypeId} {n : Nat} (h : W.has P r base a e n) : a.spot = none ∧ a.block < W.heap.size ∧ ∃ l, (hpW W).load (a.block + 16) a.off 0 = some l := by
  obtain ⟨_, hsp, row, cells, hsh, hl⟩ := h
  have hle := liesAt_le hl
  have hle2 : a.off ≤ cells := Nat.le_trans hle (Nat.div_mul_le_self _ _)
  unfold World.shape? at hsh
  split at hsh
  next cs el fz ho =>
    cases hsh
    have hlt := (Array.getElem?_eq_some_iff.1 ho).1
    have hr : Row (hpW W) (a.block + 16) (cs.toList.map (absV W.heap.size)) 0 := ⟨_, _, by rw [hpW_at, ho]; rfl, Tr.sized_ofList _, fun j => Tr.get_ofList _ j⟩
    exact ⟨hsp, hlt, _, hr.load (o := a.off) (n := 0) (by simpa using hle2)⟩
  · cases hsh
section
variable {H : Type} {enc : TypeId × Value → H} {P : Program}
theorem open_sl {W : World} {base fuel : Nat} {s e : TypeId} {k : IntKind} {c : Value} {sp : Nat → Bool} {hd : Bool} {x : DataW H × List MemPlace} (hs : P.underlying s = some (.slice e)) (he : P.underlying e = some (.int k)) (hc : P.cellsOf e = 1)
    (hok : Cell.okWide P W .any base s c) (h : DataW.trod enc P W 0 sp hd fuel s [c] = some x) : ∃ zs : List Int, SlW (hpW W) k (absV W.heap.size c) zs ∧ (∀ z ∈ zs, (Lit.int k z).wf = true) ∧ zs.length ≤ 9223372036854775807 := by
  rcases Go.ChangeShapes.open_ints hs he hc h with ⟨e1, _⟩ | ⟨a, len, cap, zs, e1, hb, hl, hm, hz, _, hcell, hwf⟩
  · cases e1
    exact ⟨[], .inl ⟨rfl, rfl⟩, fun z hz => (by cases hz), by simp⟩
  · cases e1
    unfold Cell.okWide at hok
    rw [hs] at hok
    simp only [Cell.ok, hs] at hok
    obtain ⟨hle1, hmax, hhas⟩ := hok
    obtain ⟨hsp, hlt, h0⟩ := has_W hhas
    have hlz : len ≤ zs.length := by rw [hz]; split <;> omega
    refine ⟨zs.take len, .inr ⟨a.block + 16, a.off, cap, ?_, ?_, ?_⟩, fun z hz => hwf z (List.mem_of_mem_take hz), by
      have : (cap : Int) ≤ 9223372036854775807 := hmax
      rw [List.length_take]; omega⟩
    · rw [List.length_take, Nat.min_eq_left hlz]
      simp only [absV, if_pos hl, if_pos (And.intro hsp hlt)]
    · rw [List.length_take, Nat.min_eq_left hlz]; exact hl
    · rw [List.length_take, Nat.min_eq_left hlz, Nat.mul_one]
      rw [load_join (f := fun i => .int k (zs.getD i 0)) h0 (fun i hi => load_W hsp (hcell i (by omega)))]
      congr 1
      have e4 : ∀ l : List Int, l.flatMap (encI k) = l.map fun x => .int k x := fun l => by
        rw [List.flatMap_eq_foldl, List.map_eq_flatMap, List.flatMap_eq_foldl]; rfl
      rw [e4]
      refine List.ext_getElem? fun i => ?_
      rw [List.getElem?_map, List.getElem?_map, List.getElem?_take]
      by_cases hi : i < len
      · rw [if_pos hi, List.getElem?_range hi, List.getElem?_eq_getElem (show i < zs.length by omega)]
        simp [List.getD_eq_getElem?_getD, show i < zs.length by omega]
      · rw [if_neg hi, List.getElem?_eq_none (by simpa using hi)]; rfl
/-- A slice of numbers, opened. -/
theorem open_slV {W : World} {base : Nat} {s e : TypeId} {k : IntKind} {v : Value} {sp : Nat → Bool} {hd : Bool} {d : DataW H} {p : List MemPlace} (hs : P.underlying s = some (.slice e)) (he : P.underlying e = some (.int k)) (hc : P.cellsOf e = 1)
    (hval : Value.okWide P W .any base s v) (h : DataW.Trod enc P W 0 sp hd s v d p) : ∃ zs : List Int, SlW (hpW W) k (absA W.heap.size v) zs ∧ (∀ z ∈ zs, (Lit.int k z).wf = true) ∧ zs.length ≤ 9223372036854775807 := by
  unfold Value.okWide at hval
  rw [hs] at hval
  obtain ⟨fuel, h⟩ := h
  have hc0 : ∀ l : Array Value, v ≠ .agg l := by
    rintro l rfl
    simp only [Cell.okWide, hs, Cell.ok] at hval
  have hcs : v.cells.toList = [v] := by cases v <;> first | rfl | exact absurd rfl (hc0 _)
  rw [hcs] at h
  have ha : absA W.heap.size v = absV W.heap.size v := by cases v <;> first | rfl | exact absurd rfl (hc0 _)
  rw [ha]
  exact open_sl hs he hc hval h
/-- A struct of two slices of numbers, opened. -/
theorem open_sl2 {W : World} {base : Nat} {t s e : TypeId} {k : IntKind} {f0 f1 : Field} {v : Value} {sp : Nat → Bool} {hd : Bool} {d : DataW H} {p : List MemPlace} (ht : P.underlying t = some (.struct #[f0, f1])) (o0 : f0.offset = 0) (o1 : f1.offset = 1) (t0 : f0.type = s) (t1 : f1.type = s)
    (hs : P.underlying s = some (.slice e)) (he : P.underlying e = some (.int k)) (hc : P.cellsOf e = 1) (hcs : P.cellsOf s = 1) (hct : P.cellsOf t = 2) (hts : P.cellTypes P.depth t = some [s, s])
    (hval : Value.okWide P W .any base t v) (h : DataW.Trod enc P W 0 sp hd t v d p) :
    ∃ (c0 c1 : Value) (xs ys : List Int), v = .agg #[c0, c1] ∧ SlW (hpW W) k (absV W.heap.size c0) xs ∧ SlW (hpW W) k (absV W.heap.size c1) ys ∧ (∀ z ∈ xs, (Lit.int k z).wf = true) ∧ ∀ z ∈ ys, (Lit.int k z).wf = true := by
  unfold Value.okWide at hval
  rw [ht] at hval
  obtain ⟨cs, rfl, hsz, ts, e1, _, hrow⟩ := hval
  rw [hts] at e1
  cases e1
  rw [hct] at hsz
  obtain ⟨l⟩ := cs
  simp only [List.size_toArray] at hsz
  obtain ⟨c0, c1, rfl⟩ := len2 hsz
  obtain ⟨fuel, h⟩ := h
  obtain ⟨y0, y1, n, _, _, h1, h2⟩ := Go.ChangeShapes.trod_struct2 ht h
  rw [o0, t0, hcs] at h1
  rw [o1, t1, hcs] at h2
  obtain ⟨u0, e0, k0⟩ := hrow 0 c0 rfl
  obtain ⟨u1, e1, k1⟩ := hrow 1 c1 rfl
  cases e0
  cases e1
  obtain ⟨xs, hx, wx, _⟩ := open_sl hs he hc k0 h1
  obtain ⟨ys, hy, wy, _⟩ := open_sl hs he hc k1 h2
  exact ⟨c0, c1, xs, ys, rfl, hx, hy, wx, wy⟩
end
end Go.Ab

end
