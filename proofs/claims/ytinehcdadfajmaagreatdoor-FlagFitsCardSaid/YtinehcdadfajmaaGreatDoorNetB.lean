/- Nets, cells, flags: what the functions do (part 2). -/
import Derived.Test.YtinehcdadfajmaaGreatDoorNetA
set_option linter.defProp false
set_option linter.unusedVariables false
set_option linter.unusedSimpArgs false
section
/- Drafts: graphs. -/
set_option maxHeartbeats 4000000

set_option linter.unusedVariables false
namespace Go.Ab
open Go.Proofs
set_option maxRecDepth 10000
set_option linter.defProp false
def Tryz.FFt839 := And.intro Tryz.a1 <| And.intro Tryz.s1 <| And.intro Tryz.z1 <| And.intro Tryz.n1 <| And.intro Tryz.u2 <| And.intro Tryz.a2 <| And.intro Tryz.s2 <| And.intro Tryz.z2 <| And.intro Tryz.i2 <| And.intro Tryz.u3 <| And.intro Tryz.a3 <| And.intro Tryz.s3 <| And.intro Tryz.z3 <| And.intro Tryz.i3 <| And.intro Tryz.u4 <| And.intro Tryz.a4 <| And.intro Tryz.s4 <| And.intro Tryz.z4 <| And.intro Tryz.n4 <| And.intro Tryz.u5 <| And.intro Tryz.a5 <| And.intro Tryz.s5 <| And.intro Tryz.z5 <| And.intro Tryz.i5 <| And.intro Tryz.u6 <| And.intro Tryz.a6 <| And.intro Tryz.s6 <| And.intro Tryz.z6 <| And.intro Tryz.i6 <| And.intro Tryz.a7 <| And.intro Tryz.s7 <| And.intro Tryz.z7 <| And.intro Tryz.i7 <| And.intro Tryz.n7 <| And.intro Tryz.p7 <| And.intro Tryz.ff7 <| And.intro Tryz.d7 <| And.intro Tryz.a8 <| And.intro Tryz.s8 <| And.intro Tryz.z8 <| And.intro Tryz.i8 <| And.intro Tryz.n8 <| And.intro Tryz.p8 <| And.intro Tryz.ff8 <| And.intro Tryz.d8 <| And.intro Tryz.u9 <| And.intro Tryz.a9 <| And.intro Tryz.s9 <| And.intro Tryz.z9 <| And.intro Tryz.n9 <| And.intro Tryz.u10 <| And.intro Tryz.a10 <| And.intro Tryz.s10 <| And.intro Tryz.z10 <| And.intro Tryz.n10 <| And.intro Tryz.u11 <| And.intro Tryz.a11 <| And.intro Tryz.s11 <| And.intro Tryz.z11 <| And.intro Tryz.n11 <| And.intro Tryz.u12 <| And.intro Tryz.a12 <| And.intro Tryz.s12 <| And.intro Tryz.z12 <| And.intro Tryz.i12 <| And.intro Tryz.a13 <| And.intro Tryz.s13 <| And.intro Tryz.z13 <| And.intro Tryz.i13 <| And.intro Tryz.n13 <| And.intro Tryz.p13 <| And.intro Tryz.ff13 <| And.intro Tryz.d13 <| And.intro Tryz.a14 <| And.intro Tryz.s14 <| And.intro Tryz.z14 <| And.intro Tryz.i14 <| And.intro Tryz.n14 <| And.intro Tryz.p14 <| And.intro Tryz.ff14 <| And.intro Tryz.d14 <| And.intro Tryz.u15 <| And.intro Tryz.a15 <| And.intro Tryz.s15 <| And.intro Tryz.z15 <| And.intro Tryz.q15 <| And.intro Tryz.i15 <| And.intro Tryz.n15 <| And.intro Tryz.u16 <| And.intro Tryz.a16 <| And.intro Tryz.s16 <| And.intro Tryz.z16 <| And.intro Tryz.q16 <| And.intro Tryz.i16 <| And.intro Tryz.n16 <| And.intro Tryz.u17 <| And.intro Tryz.a17 <| And.intro Tryz.s17 <| And.intro Tryz.z17 <| And.intro Tryz.q17 <| And.intro Tryz.i17 <| And.intro Tryz.n17 <| And.intro Tryz.a18 <| And.intro Tryz.s18 <| And.intro Tryz.z18 <| And.intro Tryz.i18 <| And.intro Tryz.n18 <| And.intro Tryz.p18 <| And.intro Tryz.ff18 <| And.intro Tryz.d18 <| And.intro Tryz.a19 <| And.intro Tryz.s19 <| And.intro Tryz.z19 <| And.intro Tryz.i19 <| And.intro Tryz.n19 <| And.intro Tryz.p19 <| And.intro Tryz.ff19 <| And.intro Tryz.d19 <| And.intro Tryz.a20 <| And.intro Tryz.s20 <| And.intro Tryz.z20 <| And.intro Tryz.q20 <| And.intro Tryz.n20 <| And.intro Tryz.u21 <| And.intro Tryz.a21 <| And.intro Tryz.s21 <| And.intro Tryz.z21 <| And.intro Tryz.i21 <| And.intro Tryz.u22 <| And.intro Tryz.a22 <| And.intro Tryz.s22 <| And.intro Tryz.z22 <| And.intro Tryz.q22 <| And.intro Tryz.n22 <| And.intro Tryz.a23 <| And.intro Tryz.s23 <| And.intro Tryz.z23 <| And.intro Tryz.i23 <| And.intro Tryz.n23 <| And.intro Tryz.p23 <| And.intro Tryz.ff23 <| And.intro Tryz.d23 <| And.intro Tryz.u25 <| And.intro Tryz.a25 <| And.intro Tryz.s25 <| And.intro Tryz.z25 <| And.intro Tryz.q25 <| And.intro Tryz.n25 <| And.intro Tryz.u26 <| And.intro Tryz.a26 <| And.intro Tryz.s26 <| And.intro Tryz.z26 <| And.intro Tryz.q26 <| And.intro Tryz.n26 <| And.intro Tryz.a28 <| And.intro Tryz.s28 <| And.intro Tryz.z28 <| And.intro Tryz.i28 <| And.intro Tryz.n28 <| And.intro Tryz.p28 <| And.intro Tryz.ff28 <| And.intro Tryz.d28 <| And.intro Tryz.a60 <| And.intro Tryz.s60 <| And.intro Tryz.z60 <| And.intro Tryz.i60 <| And.intro Tryz.n60 <| And.intro Tryz.p60 <| And.intro Tryz.ff60 <| And.intro Tryz.d60 <| And.intro Tryz.u82 <| And.intro Tryz.a82 <| And.intro Tryz.s82 <| And.intro Tryz.z82 <| And.intro Tryz.q82 <| And.intro Tryz.i82 <| And.intro Tryz.n82 <| And.intro Tryz.a84 <| And.intro Tryz.s84 <| And.intro Tryz.z84 <| And.intro Tryz.i84 <| And.intro Tryz.n84 <| And.intro Tryz.p84 <| And.intro Tryz.ff84 <| And.intro Tryz.d84 <| And.intro Tryz.u159 <| And.intro Tryz.a159 <| And.intro Tryz.s159 <| And.intro Tryz.z159 <| And.intro Tryz.q159 <| And.intro Tryz.i159 <| And.intro Tryz.n159 <| And.intro Tryz.u237 <| And.intro Tryz.a237 <| And.intro Tryz.s237 <| And.intro Tryz.z237 <| And.intro Tryz.i237 <| And.intro Tryz.u247 <| And.intro Tryz.a247 <| And.intro Tryz.s247 <| And.intro Tryz.z247 <| And.intro Tryz.i247 <| And.intro Tryz.a276 <| And.intro Tryz.s276 <| And.intro Tryz.z276 <| And.intro Tryz.i276 <| And.intro Tryz.n276 <| And.intro Tryz.p276 <| And.intro Tryz.ff276 <| And.intro Tryz.d276 <| And.intro Tryz.u277 <| And.intro Tryz.a277 <| And.intro Tryz.s277 <| And.intro Tryz.z277 <| And.intro Tryz.n277 <| And.intro Tryz.a279 <| And.intro Tryz.s279 <| And.intro Tryz.z279 <| And.intro Tryz.i279 <| And.intro Tryz.n279 <| And.intro Tryz.u281 <| And.intro Tryz.a281 <| And.intro Tryz.s281 <| And.intro Tryz.z281 <| And.intro Tryz.i281 <| And.intro Tryz.a282 <| And.intro Tryz.s282 <| And.intro Tryz.z282 <| And.intro Tryz.n282 <| And.intro Tryz.u283 <| And.intro Tryz.a283 <| And.intro Tryz.s283 <| And.intro Tryz.z283 <| And.intro Tryz.i283 <| And.intro Tryz.u284 <| And.intro Tryz.a284 <| And.intro Tryz.s284 <| And.intro Tryz.z284 <| And.intro Tryz.i284 <| And.intro Tryz.a286 <| And.intro Tryz.s286 <| And.intro Tryz.z286 <| And.intro Tryz.i286 <| And.intro Tryz.n286 <| And.intro Tryz.p286 <| And.intro Tryz.ff286 <| Tryz.d286
def ints (l : List Int) : List Value := l.flatMap (encI .i64)
theorem ints_len (l : List Int) : (ints l).length = l.length := by unfold ints; rw [flatMap_len (k := 1) (fun _ => rfl)]; omega
theorem ints_app (l m : List Int) : ints (l ++ m) = ints l ++ ints m := by unfold ints; rw [List.flatMap_append]
theorem raw_ok {h0 : Hp} (ok : h0.t.Sized h0.n) {bd : Nat} {vB : Value} {xs : List Int} (hr : Row h0 bd [vB, .int .i64 ((0 : Nat) : Int)] 1) (hd : DrAt h0 bd vB xs 0) :
    Ret Tryz.abEnv 39 [ptrTo bd] h0 fun v h' => Mo (· = bd) h0 h' ∧ ∃ γ vx vy va, v = rawV γ vx vy va ∧ Good γ ∧ GraphAt h' vx vy va γ ∧ ∀ c, (blkOf vx c ∨ blkOf vy c ∨ blkOf va c) → h0.n ≤ c := by
  have S := St.init1 ok (o := .row [vB, .int .i64 ((0 : Nat) : Int)] 1) hr
  have lt0 := hr.lt ok
  refine enter_ret (n := 117) (rs := [.cell 2 28]) rfl Tryz.e39 rfl rfl rfl (Nat.le_of_ble_eq_true rfl) ?_
  simp only [BS, Tryz.FFt839]
  refine step_newS allocR_new S ?_; clear S; intro h b2 S n_b2
  simp only [BS, Nat.reduceLT, Nat.reduceEqDiff, if_true, if_false, List.map_cons, List.map_nil, List.append_nil, List.nil_append, eq_self]
  refine step_ret (next_ok (n := 12) (a := 0) S.ok (S.row m1) (hd.mo S.fr (by omega)) (by omega) (by omega)) ?_
  rintro v h ⟨f, r0, a0, rfl, hr0, ha0, R⟩
  replace S := S.call1 (i := 1) rfl f (o' := .row _ _) R
  simp only [List.set_cons_zero, List.set_cons_succ] at S
  have w1 : wrapI .i64 (1 + (r0 : Int)) = ((1 + r0 : Nat) : Int) := by rw [wrap64] <;> omega
  simp only [BS, Option.isSome_some, Nat.reduceLT, Nat.reduceEqDiff, Nat.reduceAdd, if_true, if_false, List.map_cons, List.map_nil, List.length_cons, List.length_nil, List.set_cons_zero, List.getElem?_cons_zero, Nat.zero_add, eq_self, Tryz.FFt839, w1]
  refine step_newS allocR_new S ?_; clear S; intro h b3 S n_b3
  simp only [BS, Nat.reduceLT, Nat.reduceEqDiff, if_true, if_false, eq_self]
  first | refine step_u (S.store (i := 0) rfl (by first | exact Tryz.s7 | exact Tryz.s8 | exact Tryz.s13 | exact Tryz.s14 | exact Tryz.s18 | exact Tryz.s19 | exact Tryz.s23 | exact Tryz.s28 | exact Tryz.s60 | exact Tryz.s84 | exact Tryz.s276 | exact Tryz.s277 | exact Tryz.s279 | exact Tryz.s286) (by intro x e; cases e) rfl rfl (Nat.le_of_ble_eq_true rfl) Nat.one_ne_zero) ?_ | refine step_u (S.store (i := 1) rfl (by first | exact Tryz.s7 | exact Tryz.s8 | exact Tryz.s13 | exact Tryz.s14 | exact Tryz.s18 | exact Tryz.s19 | exact Tryz.s23 | exact Tryz.s28 | exact Tryz.s60 | exact Tryz.s84 | exact Tryz.s276 | exact Tryz.s277 | exact Tryz.s279 | exact Tryz.s286) (by intro x e; cases e) rfl rfl (Nat.le_of_ble_eq_true rfl) Nat.one_ne_zero) ?_ | refine step_u (S.store (i := 2) rfl (by first | exact Tryz.s7 | exact Tryz.s8 | exact Tryz.s13 | exact Tryz.s14 | exact Tryz.s18 | exact Tryz.s19 | exact Tryz.s23 | exact Tryz.s28 | exact Tryz.s60 | exact Tryz.s84 | exact Tryz.s276 | exact Tryz.s277 | exact Tryz.s279 | exact Tryz.s286) (by intro x e; cases e) rfl rfl (Nat.le_of_ble_eq_true rfl) Nat.one_ne_zero) ?_ | refine step_u (S.store (i := 3) rfl (by first | exact Tryz.s7 | exact Tryz.s8 | exact Tryz.s13 | exact Tryz.s14 | exact Tryz.s18 | exact Tryz.s19 | exact Tryz.s23 | exact Tryz.s28 | exact Tryz.s60 | exact Tryz.s84 | exact Tryz.s276 | exact Tryz.s277 | exact Tryz.s279 | exact Tryz.s286) (by intro x e; cases e) rfl rfl (Nat.le_of_ble_eq_true rfl) Nat.one_ne_zero) ?_ | refine step_u (S.store (i := 4) rfl (by first | exact Tryz.s7 | exact Tryz.s8 | exact Tryz.s13 | exact Tryz.s14 | exact Tryz.s18 | exact Tryz.s19 | exact Tryz.s23 | exact Tryz.s28 | exact Tryz.s60 | exact Tryz.s84 | exact Tryz.s276 | exact Tryz.s277 | exact Tryz.s279 | exact Tryz.s286) (by intro x e; cases e) rfl rfl (Nat.le_of_ble_eq_true rfl) Nat.one_ne_zero) ?_ | refine step_u (S.store (i := 5) rfl (by first | exact Tryz.s7 | exact Tryz.s8 | exact Tryz.s13 | exact Tryz.s14 | exact Tryz.s18 | exact Tryz.s19 | exact Tryz.s23 | exact Tryz.s28 | exact Tryz.s60 | exact Tryz.s84 | exact Tryz.s276 | exact Tryz.s277 | exact Tryz.s279 | exact Tryz.s286) (by intro x e; cases e) rfl rfl (Nat.le_of_ble_eq_true rfl) Nat.one_ne_zero) ?_ | refine step_u (S.store (i := 6) rfl (by first | exact Tryz.s7 | exact Tryz.s8 | exact Tryz.s13 | exact Tryz.s14 | exact Tryz.s18 | exact Tryz.s19 | exact Tryz.s23 | exact Tryz.s28 | exact Tryz.s60 | exact Tryz.s84 | exact Tryz.s276 | exact Tryz.s277 | exact Tryz.s279 | exact Tryz.s286) (by intro x e; cases e) rfl rfl (Nat.le_of_ble_eq_true rfl) Nat.one_ne_zero) ?_ | refine step_u (S.store (i := 7) rfl (by first | exact Tryz.s7 | exact Tryz.s8 | exact Tryz.s13 | exact Tryz.s14 | exact Tryz.s18 | exact Tryz.s19 | exact Tryz.s23 | exact Tryz.s28 | exact Tryz.s60 | exact Tryz.s84 | exact Tryz.s276 | exact Tryz.s277 | exact Tryz.s279 | exact Tryz.s286) (by intro x e; cases e) rfl rfl (Nat.le_of_ble_eq_true rfl) Nat.one_ne_zero) ?_
  clear S; rintro h ⟨S, mo⟩; clear mo; simp only [List.set_cons_zero, List.set_cons_succ, vcells, lay, List.take, List.drop, List.nil_append, List.cons_append, List.append_nil, List.length_cons, List.length_nil, Nat.reduceAdd, Nat.add_zero] at S
  simp only [BS]
  replace S := ((S.nilG (k := 3)).nilG (k := 1)).nilG (k := 1)
  generalize hN : 1 + r0 = N at S
  refine loop_ind (fun (i : Nat) ρ h => i ≤ N ∧ ∃ (a : Nat) (vX vY : Value) (X Y : List Int), a ≤ 1 + 2 * i ∧ X.length = i ∧ Y.length = i ∧ (∀ x ∈ X, -2147483648 ≤ x ∧ x ≤ 2147483647) ∧ (∀ x ∈ Y, -2147483648 ≤ x ∧ x ≤ 2147483647) ∧
      St (· = bd) h0 h [(b3, .row [.int .i64 N, vX, vY, .slice none 0 0] 1), (b2, .row [.int .i64 0, .slice none 0 0, .slice none 0 0, .slice none 0 0] 1), (bd, .row [vB, .int .i64 a] 1)] [(vX, 1, ints X), (vY, 1, ints Y), (.slice none 0 0, 3, [])] ∧
      ρ 0 = ptrTo bd ∧ ρ 2 = ptrTo b2 ∧ ρ 3 = ptrTo b3 ∧ ρ 4 = .int .i64 i) (fun i => N - i) ?_ 0 _ _ ?_
  · clear S
    intro i ih ρ h ⟨hi, a, vX, vY, X, Y, ha, lX, lY, cX, cY, S, r0, r2, r3, r4⟩
    by_cases hlt : i < N
    · simp only [BS, Nat.add_zero, Nat.reduceLT, Nat.reduceEqDiff, if_true, if_false, decide_true, eq_self, Tryz.FFt839, r3, r4, lt_nat, hlt, S.ld (b := b3) (o := 0) (by first | exact m0 | exact m1 | exact m2 | exact m3 | exact m4 | exact m5 | exact m6 | exact m7) rfl]
      refine draw_step (hoist_no rfl) (q := 32) (ps := [(1, 3)]) (by kernel_rfl) ?_
      simp only [BS, cls, Nat.reduceLT, Nat.reduceEqDiff, Nat.reduceAdd, if_true, if_false, List.map_cons, List.map_nil, List.append_nil, List.nil_append, Nat.reducePow, Nat.reduceDiv, Nat.reduceMod, Nat.reduceLeDiff, Bool.and_true, Bool.and_false, Nat.zero_add, decide_true, decide_false, eq_self, Tryz.FFt839, r0, r3, S.ld (b := b3) (o := 1) (by first | exact m0 | exact m1 | exact m2 | exact m3 | exact m4 | exact m5 | exact m6 | exact m7) rfl]
      refine dn_ret (next_ok (n := 9) (a := a) S.ok (S.row m2) (hd.mo S.fr (by omega)) (by omega) (by omega)) ?_
      rintro v h ⟨f, r1, a1, rfl, hr1, ha1, R⟩
      have hl := S.leaves (c := b3) m0 f (by omega)
      replace S := S.call1 (i := 2) rfl f (o' := .row _ _) R
      simp only [List.set_cons_zero, List.set_cons_succ] at S
      have w9 : wrapI .i64 ((r1 : Int) - 3) = (r1 : Int) - 3 := by rw [wrap64] <;> omega
      simp only [BS, cls, Nat.reduceLT, Nat.reduceEqDiff, Nat.reduceAdd, if_true, if_false, List.map_cons, List.map_nil, Nat.reducePow, Nat.reduceDiv, Nat.reduceMod, Nat.reduceLeDiff, Bool.and_true, Bool.and_false, decide_true, decide_false, eq_self, w9]
      refine dq_newS (bs_new (by first | exact Tryz.u22 | exact Tryz.u25 | exact Tryz.u26) (by first | exact Tryz.e2E | exact Tryz.e5E | exact Tryz.e60E) (by decide) (by first | rfl | exact fillE )) S ?_; clear S; intro h bs S n_bs e_bs; simp only [repL, setL, vcells, List.cons_append, List.nil_append, List.append_nil, List.set_cons_zero, List.set_cons_succ, Nat.reduceMul, Nat.reduceAdd, Nat.zero_mul, Nat.zero_add, Nat.mul_one, Nat.one_mul] at S
      simp only [BS, cls, Nat.reduceLT, Nat.reduceEqDiff, Nat.reduceAdd, if_true, if_false, Nat.reducePow, Nat.reduceDiv, Nat.reduceMod, Nat.reduceLeDiff, Bool.and_true, decide_true, decide_false, eq_self]
      refine dn_v (S.grow (j := 0) (m := 1) (new := ints [(r1 : Int) - 3]) rfl Tryz.u25 Tryz.e2E (by decide) Tryz.n25 (by simp only [srcCells]; rw [S.lds (b := bs) (o := 0) (n := 1 * 1) m0 (Nat.le_of_ble_eq_true rfl)]; rfl) rfl (by decide) rfl (by rw [ints_len, ints_len]; simp; omega)) ?_
      clear S
      rintro h vX' S
      simp only [List.set_cons_zero] at S
      replace S := S.drop1
      rw [← ints_app] at S
      have fX : Fl vX' := (S.gown _ m0).1.fl
      simp only [BS, cls, Nat.reduceLT, Nat.reduceEqDiff, Nat.reduceAdd, if_true, if_false, Nat.reducePow, Nat.reduceDiv, Nat.reduceMod, Nat.reduceLeDiff, Bool.and_false, Nat.zero_add, decide_false, eq_self, Tryz.FFt839, r3]
      first | refine dn_u (store_fl S (i := 0) rfl (by simp only [Tryz.FFt839]) (by first | exact fl_int | exact fl_slice | exact fl_ptr | exact fl_bool | exact fl_map | exact fl_func | exact fl_nili | exact fl_iface | exact fl_nilf | exact fl_str | assumption) (Nat.lt_of_succ_le (Nat.le_of_ble_eq_true rfl)) Nat.one_ne_zero) ?_ | refine dn_u (store_fl S (i := 1) rfl (by simp only [Tryz.FFt839]) (by first | exact fl_int | exact fl_slice | exact fl_ptr | exact fl_bool | exact fl_map | exact fl_func | exact fl_nili | exact fl_iface | exact fl_nilf | exact fl_str | assumption) (Nat.lt_of_succ_le (Nat.le_of_ble_eq_true rfl)) Nat.one_ne_zero) ?_ | refine dn_u (store_fl S (i := 2) rfl (by simp only [Tryz.FFt839]) (by first | exact fl_int | exact fl_slice | exact fl_ptr | exact fl_bool | exact fl_map | exact fl_func | exact fl_nili | exact fl_iface | exact fl_nilf | exact fl_str | assumption) (Nat.lt_of_succ_le (Nat.le_of_ble_eq_true rfl)) Nat.one_ne_zero) ?_ | refine dn_u (store_fl S (i := 3) rfl (by simp only [Tryz.FFt839]) (by first | exact fl_int | exact fl_slice | exact fl_ptr | exact fl_bool | exact fl_map | exact fl_func | exact fl_nili | exact fl_iface | exact fl_nilf | exact fl_str | assumption) (Nat.lt_of_succ_le (Nat.le_of_ble_eq_true rfl)) Nat.one_ne_zero) ?_ | refine dn_u (store_fl S (i := 4) rfl (by simp only [Tryz.FFt839]) (by first | exact fl_int | exact fl_slice | exact fl_ptr | exact fl_bool | exact fl_map | exact fl_func | exact fl_nili | exact fl_iface | exact fl_nilf | exact fl_str | assumption) (Nat.lt_of_succ_le (Nat.le_of_ble_eq_true rfl)) Nat.one_ne_zero) ?_ | refine dn_u (store_fl S (i := 5) rfl (by simp only [Tryz.FFt839]) (by first | exact fl_int | exact fl_slice | exact fl_ptr | exact fl_bool | exact fl_map | exact fl_func | exact fl_nili | exact fl_iface | exact fl_nilf | exact fl_str | assumption) (Nat.lt_of_succ_le (Nat.le_of_ble_eq_true rfl)) Nat.one_ne_zero) ?_ | refine dn_u (store_fl S (i := 6) rfl (by simp only [Tryz.FFt839]) (by first | exact fl_int | exact fl_slice | exact fl_ptr | exact fl_bool | exact fl_map | exact fl_func | exact fl_nili | exact fl_iface | exact fl_nilf | exact fl_str | assumption) (Nat.lt_of_succ_le (Nat.le_of_ble_eq_true rfl)) Nat.one_ne_zero) ?_ | refine dn_u (store_fl S (i := 7) rfl (by simp only [Tryz.FFt839]) (by first | exact fl_int | exact fl_slice | exact fl_ptr | exact fl_bool | exact fl_map | exact fl_func | exact fl_nili | exact fl_iface | exact fl_nilf | exact fl_str | assumption) (Nat.lt_of_succ_le (Nat.le_of_ble_eq_true rfl)) Nat.one_ne_zero) ?_
      clear S; rintro h ⟨S, mo⟩; clear mo; simp only [List.set_cons_zero, List.set_cons_succ, vcells, lay, List.take, List.drop, List.nil_append, List.cons_append, List.append_nil, List.length_cons, List.length_nil, Nat.reduceAdd, Nat.add_zero] at S
      simp only [BS, Nat.reduceAdd]
      refine ⟨by simp only [pairs_cons, pairs_nil, entry_noted, entry_hit, entry_miss, ne_eq, not_false_eq_true, note_load, note_run, note_alloc, noted_some, ll_tmp, ll_put, setR_at, Nat.reduceLT, Nat.reduceEqDiff, reduceIte, Bool.and_true, r3, ptr_eq, pair_br hl], ?_⟩
      refine draw_step (hoist_no rfl) (q := 16) (ps := [(1, 3)]) (by kernel_rfl) ?_
      simp only [BS, cls, Nat.reduceLT, Nat.reduceEqDiff, Nat.reduceAdd, if_true, if_false, List.map_cons, List.map_nil, List.append_nil, List.nil_append, Nat.reducePow, Nat.reduceDiv, Nat.reduceMod, Nat.reduceLeDiff, Bool.and_true, Bool.and_false, Nat.zero_add, decide_true, decide_false, eq_self, Tryz.FFt839, r0, r3, S.ld (b := b3) (o := 2) (by first | exact m0 | exact m1 | exact m2 | exact m3 | exact m4 | exact m5 | exact m6 | exact m7) rfl]
      clear f hl R
      refine dn_ret (next_ok (n := 7) (a := a1) S.ok (S.row m2) (hd.mo S.fr (by omega)) (by omega) (by omega)) ?_
      rintro v h ⟨f, r5, a2, rfl, hr5, ha2, R⟩
      have hl := S.leaves (c := b3) m0 f (by omega)
      replace S := S.call1 (i := 2) rfl f (o' := .row _ _) R
      simp only [List.set_cons_zero, List.set_cons_succ] at S
      simp only [BS, cls, Nat.reduceLT, Nat.reduceEqDiff, Nat.reduceAdd, if_true, if_false, List.map_cons, List.map_nil, Nat.reducePow, Nat.reduceDiv, Nat.reduceMod, Nat.reduceLeDiff, Bool.and_true, decide_true, eq_self]
      refine dq_newS (bs_new (by first | exact Tryz.u22 | exact Tryz.u25 | exact Tryz.u26) (by first | exact Tryz.e2E | exact Tryz.e5E | exact Tryz.e60E) (by decide) (by first | rfl | exact fillE )) S ?_; clear S; intro h bs S n_bs e_bs; simp only [repL, setL, vcells, List.cons_append, List.nil_append, List.append_nil, List.set_cons_zero, List.set_cons_succ, Nat.reduceMul, Nat.reduceAdd, Nat.zero_mul, Nat.zero_add, Nat.mul_one, Nat.one_mul] at S
      simp only [BS, cls, Nat.reduceLT, Nat.reduceEqDiff, Nat.reduceAdd, if_true, if_false, Nat.reducePow, Nat.reduceDiv, Nat.reduceMod, Nat.reduceLeDiff, Bool.and_true, decide_true, decide_false, eq_self]
      refine dn_v (S.grow (j := 1) (m := 1) (new := ints [(r5 : Int)]) rfl Tryz.u25 Tryz.e2E (by decide) Tryz.n25 (by simp only [srcCells]; rw [S.lds (b := bs) (o := 0) (n := 1 * 1) m0 (Nat.le_of_ble_eq_true rfl)]; rfl) rfl (by decide) rfl (by rw [ints_len, ints_len]; simp; omega)) ?_
      clear S
      rintro h vY' S
      simp only [List.set_cons_zero, List.set_cons_succ] at S
      replace S := S.drop1
      rw [← ints_app] at S
      have fY : Fl vY' := (S.gown _ m1).1.fl
      simp only [BS, cls, Nat.reduceLT, Nat.reduceEqDiff, Nat.reduceAdd, if_true, if_false, Nat.reducePow, Nat.reduceDiv, Nat.reduceMod, Nat.reduceLeDiff, Bool.and_false, Nat.zero_add, decide_false, eq_self, Tryz.FFt839, r3]
      first | refine dn_u (store_fl S (i := 0) rfl (by simp only [Tryz.FFt839]) (by first | exact fl_int | exact fl_slice | exact fl_ptr | exact fl_bool | exact fl_map | exact fl_func | exact fl_nili | exact fl_iface | exact fl_nilf | exact fl_str | assumption) (Nat.lt_of_succ_le (Nat.le_of_ble_eq_true rfl)) Nat.one_ne_zero) ?_ | refine dn_u (store_fl S (i := 1) rfl (by simp only [Tryz.FFt839]) (by first | exact fl_int | exact fl_slice | exact fl_ptr | exact fl_bool | exact fl_map | exact fl_func | exact fl_nili | exact fl_iface | exact fl_nilf | exact fl_str | assumption) (Nat.lt_of_succ_le (Nat.le_of_ble_eq_true rfl)) Nat.one_ne_zero) ?_ | refine dn_u (store_fl S (i := 2) rfl (by simp only [Tryz.FFt839]) (by first | exact fl_int | exact fl_slice | exact fl_ptr | exact fl_bool | exact fl_map | exact fl_func | exact fl_nili | exact fl_iface | exact fl_nilf | exact fl_str | assumption) (Nat.lt_of_succ_le (Nat.le_of_ble_eq_true rfl)) Nat.one_ne_zero) ?_ | refine dn_u (store_fl S (i := 3) rfl (by simp only [Tryz.FFt839]) (by first | exact fl_int | exact fl_slice | exact fl_ptr | exact fl_bool | exact fl_map | exact fl_func | exact fl_nili | exact fl_iface | exact fl_nilf | exact fl_str | assumption) (Nat.lt_of_succ_le (Nat.le_of_ble_eq_true rfl)) Nat.one_ne_zero) ?_ | refine dn_u (store_fl S (i := 4) rfl (by simp only [Tryz.FFt839]) (by first | exact fl_int | exact fl_slice | exact fl_ptr | exact fl_bool | exact fl_map | exact fl_func | exact fl_nili | exact fl_iface | exact fl_nilf | exact fl_str | assumption) (Nat.lt_of_succ_le (Nat.le_of_ble_eq_true rfl)) Nat.one_ne_zero) ?_ | refine dn_u (store_fl S (i := 5) rfl (by simp only [Tryz.FFt839]) (by first | exact fl_int | exact fl_slice | exact fl_ptr | exact fl_bool | exact fl_map | exact fl_func | exact fl_nili | exact fl_iface | exact fl_nilf | exact fl_str | assumption) (Nat.lt_of_succ_le (Nat.le_of_ble_eq_true rfl)) Nat.one_ne_zero) ?_ | refine dn_u (store_fl S (i := 6) rfl (by simp only [Tryz.FFt839]) (by first | exact fl_int | exact fl_slice | exact fl_ptr | exact fl_bool | exact fl_map | exact fl_func | exact fl_nili | exact fl_iface | exact fl_nilf | exact fl_str | assumption) (Nat.lt_of_succ_le (Nat.le_of_ble_eq_true rfl)) Nat.one_ne_zero) ?_ | refine dn_u (store_fl S (i := 7) rfl (by simp only [Tryz.FFt839]) (by first | exact fl_int | exact fl_slice | exact fl_ptr | exact fl_bool | exact fl_map | exact fl_func | exact fl_nili | exact fl_iface | exact fl_nilf | exact fl_str | assumption) (Nat.lt_of_succ_le (Nat.le_of_ble_eq_true rfl)) Nat.one_ne_zero) ?_
      clear S; rintro h ⟨S, mo⟩; clear mo; simp only [List.set_cons_zero, List.set_cons_succ, vcells, lay, List.take, List.drop, List.nil_append, List.cons_append, List.append_nil, List.length_cons, List.length_nil, Nat.reduceAdd, Nat.add_zero] at S
      simp only [BS, Nat.reduceLT, Nat.reduceEqDiff, Nat.reduceAdd, if_true, if_false, eq_self, r4]
      refine ⟨by simp only [pairs_cons, pairs_nil, entry_noted, entry_hit, entry_miss, ne_eq, not_false_eq_true, note_load, note_run, note_alloc, noted_some, ll_tmp, ll_put, setR_at, Nat.reduceLT, Nat.reduceEqDiff, reduceIte, Bool.and_true, r3, ptr_eq, pair_br hl], ?_⟩
      have w : wrapI .i64 ((i : Int) + 1) = ((i + 1 : Nat) : Int) := by rw [wrap64] <;> omega
      simp only [w]
      exact ih (i + 1) _ _ (by omega) ⟨by omega, a2, vX', vY', _, _, by omega, by simp [lX], by simp [lY],
        fun x hx => (List.mem_append.1 hx).elim (cX x) (fun h => by simp at h; omega), fun x hx => (List.mem_append.1 hx).elim (cY x) (fun h => by simp at h; omega), S, by simp [setR, r0, ptr_eq], by simp [setR, r2, ptr_eq], by simp [setR, r3, ptr_eq], by simp [setR]⟩
    · have hiN : i = N := by omega
      subst hiN
      simp only [BS, Nat.add_zero, Nat.reduceLT, Nat.reduceEqDiff, if_true, if_false, List.map_cons, List.map_nil, List.append_nil, List.nil_append, decide_false, eq_self, Tryz.FFt839, r0, r3, r4, lt_nat, hlt, S.ld (b := b3) (o := 0) (by first | exact m0 | exact m1 | exact m2 | exact m3 | exact m4 | exact m5 | exact m6 | exact m7) rfl]
      refine step_ret (next_ok (n := 9) (a := a) S.ok (S.row m2) (hd.mo S.fr (by omega)) (by omega) (by omega)) ?_
      rintro v h ⟨f, r5, a1, rfl, hr5, ha1, R⟩
      replace S := S.call1 (i := 2) rfl f (o' := .row _ _) R
      simp only [List.set_cons_zero, List.set_cons_succ] at S
      simp only [BS, Nat.reduceLT, Nat.reduceEqDiff, if_true, if_false, eq_self]
      refine cstep_join (fun ρ h => ∃ (X Y : List Int), X.length = i ∧ Y.length = i ∧ (∀ x ∈ X, -2147483648 ≤ x ∧ x ≤ 2147483647) ∧ (∀ x ∈ Y, -2147483648 ≤ x ∧ x ≤ 2147483647) ∧
        St (· = bd) h0 h [(b3, .row [.int .i64 i, vX, vY, .slice none 0 0] 1), (b2, .row [.int .i64 0, .slice none 0 0, .slice none 0 0, .slice none 0 0] 1), (bd, .row [vB, .int .i64 a1] 1)] [(vX, 1, ints X), (vY, 1, ints Y), (.slice none 0 0, 3, [])] ∧
        ρ 0 = ptrTo bd ∧ ρ 2 = ptrTo b2 ∧ ρ 3 = ptrTo b3) ?_ ?_ ?_
      · intro _
        obtain ⟨bX, ix, stX⟩ := S.gset (E := Tryz.abEnv) (t := 2) (j := 0) (i := 0) (kd := .i64) rfl (by rw [ints_len]; omega) Tryz.s2
        have ix' : idxS (some 1) vX (.int .i64 0) = _ := ix
        simp only [BS, Nat.reduceLT, Nat.reduceEqDiff, if_true, if_false, Nat.zero_add, eq_self, Tryz.FFt839, r3, ix', S.ld (b := b3) (o := 1) (by first | exact m0 | exact m1 | exact m2 | exact m3 | exact m4 | exact m5 | exact m6 | exact m7) rfl]
        refine step_u (stX _ fl_int) ?_
        clear S stX; intro h S
        simp only [List.set_cons_zero] at S
        obtain ⟨bY, iy, stY⟩ := S.gset (E := Tryz.abEnv) (t := 2) (j := 1) (i := i - 1) (kd := .i64) rfl (by rw [ints_len]; omega) Tryz.s2
        have w1 : wrapI .i64 ((i : Int) - 1) = ((i - 1 : Nat) : Int) := by rw [wrap64] <;> omega
        simp only [BS, Nat.add_zero, Nat.reduceLT, Nat.reduceEqDiff, if_true, if_false, Nat.zero_add, eq_self, Tryz.FFt839, r3, w1, iy, S.ld (b := b3) (o := 0) (by first | exact m0 | exact m1 | exact m2 | exact m3 | exact m4 | exact m5 | exact m6 | exact m7) rfl, S.ld (b := b3) (o := 2) (by first | exact m0 | exact m1 | exact m2 | exact m3 | exact m4 | exact m5 | exact m6 | exact m7) rfl]
        refine step_u (stY _ fl_int) ?_
        clear S stY; intro h S
        simp only [List.set_cons_zero, List.set_cons_succ] at S
        simp only [BS]
        have eset : ∀ (l : List Int) (j : Nat) (z : Int), (ints l).set j (.int .i64 z) = ints (l.set j z) := by
          intro l
          induction l with
          | nil => intro j z; rfl
          | cons x l ih =>
            intro j z
            cases j with
            | zero => rfl
            | succ j => show _ :: _ = _ :: _; exact congrArg _ (ih j z)
        rw [eset, eset] at S
        refine jp_normal ⟨_, _, by simp [lX], by simp [lY], fun x hx => ?_, fun x hx => ?_, S, by simp [setR, r0, ptr_eq], by simp [setR, r2, ptr_eq], by simp [setR, r3, ptr_eq]⟩
        · rcases mem_set hx with rfl | ⟨j, _, hx⟩
          · omega
          · exact cX x (List.mem_of_getElem? hx)
        · rcases mem_set hx with rfl | ⟨j, _, hx⟩
          · omega
          · exact cY x (List.mem_of_getElem? hx)
      · intro _
        simp only [BS]
        exact jp_normal ⟨X, Y, lX, lY, cX, cY, S, by simp [setR, r0, ptr_eq], by simp [setR, r2, ptr_eq], by simp [setR, r3, ptr_eq]⟩
      · clear S r0 r2 r3 r4 lX lY cX cY X Y f R
        rintro ρ h ⟨X, Y, lX, lY, cX, cY, S, r0, r2, r3⟩
        have w3 : wrapI .i64 (3 * (i : Int)) = ((3 * i : Nat) : Int) := by rw [wrap64] <;> omega
        have w4 : wrapI .i64 (((3 * i : Nat) : Int) + 1) = ((3 * i + 1 : Nat) : Int) := by rw [wrap64] <;> omega
        simp only [BS, Nat.add_zero, Nat.reduceLT, Nat.reduceEqDiff, if_true, if_false, List.map_cons, List.map_nil, List.append_nil, List.nil_append, eq_self, Tryz.FFt839, r0, r3, w3, w4, S.ld (b := b3) (o := 0) (by first | exact m0 | exact m1 | exact m2 | exact m3 | exact m4 | exact m5 | exact m6 | exact m7) rfl]
        refine step_ret (next_ok (n := 3 * i + 1) (a := a1) S.ok (S.row m2) (hd.mo S.fr (by omega)) (by omega) (by omega)) ?_
        rintro v h ⟨f, many, a2, rfl, hmany, ha2, R⟩
        replace S := S.call1 (i := 2) rfl f (o' := .row _ _) R
        simp only [List.set_cons_zero, List.set_cons_succ] at S
        simp only [BS, Nat.reduceLT, Nat.reduceEqDiff, if_true, if_false, List.map_cons, List.map_nil, List.append_nil, List.nil_append, eq_self, r0]
        refine step_ret (next_ok (n := 3) (a := a2) S.ok (S.row m2) (hd.mo S.fr (by omega)) (by omega) (by omega)) ?_
        rintro v h ⟨f, rr, a3, rfl, hrr, ha3, R⟩
        replace S := S.call1 (i := 2) rfl f (o' := .row _ _) R
        simp only [List.set_cons_zero, List.set_cons_succ] at S
        simp only [BS, Nat.reduceLT, Nat.reduceEqDiff, if_true, if_false, eq_self]
        generalize decide ((0 : Int) < (rr : Int)) = ring
        refine loop_cut (fun ρ h => ∃ (a : Nat) (vA : Value) (A : List Arc), a ≤ a3 + 2 * i ∧ A.length ≤ i ∧ (∀ x ∈ A, x.s < i ∧ x.t < i ∧ x.w ≤ 2147483647) ∧
          St (· = bd) h0 h [(b3, .row [.int .i64 i, vX, vY, vA] 1), (b2, .row [.int .i64 0, .slice none 0 0, .slice none 0 0, .slice none 0 0] 1), (bd, .row [vB, .int .i64 a] 1)] [(vX, 1, ints X), (vY, 1, ints Y), (vA, 3, A.flatMap encA)] ∧
          ρ 0 = ptrTo bd ∧ ρ 2 = ptrTo b2 ∧ ρ 3 = ptrTo b3 ∧ ρ 5 = .int .i64 many)
          (fun (j : Nat) ρ h => j ≤ i ∧ ∃ (a : Nat) (vA : Value) (A : List Arc), a ≤ a3 + 2 * j ∧ A.length ≤ j ∧ (∀ x ∈ A, x.s < i ∧ x.t < i ∧ x.w ≤ 2147483647) ∧
          St (· = bd) h0 h [(b3, .row [.int .i64 i, vX, vY, vA] 1), (b2, .row [.int .i64 0, .slice none 0 0, .slice none 0 0, .slice none 0 0] 1), (bd, .row [vB, .int .i64 a] 1)] [(vX, 1, ints X), (vY, 1, ints Y), (vA, 3, A.flatMap encA)] ∧
          ρ 0 = ptrTo bd ∧ ρ 2 = ptrTo b2 ∧ ρ 3 = ptrTo b3 ∧ ρ 5 = .int .i64 many ∧ ρ 6 = .bool ring ∧ ρ 7 = .int .i64 j) (fun j => i - j) ?_ ?_ 0 ⟨by omega, a3, _, [], by omega, by simp, by simp, S, by simp [setR, r0, ptr_eq], by simp [setR, r2, ptr_eq], by simp [setR, r3, ptr_eq], by simp [setR], by simp [setR], by simp [setR]⟩
        · clear S r0 r2 r3 f R ih
          intro j ih ρ h ⟨hj, a, vA, A, ha, lA, cA, S, r0, r2, r3, r5, r6, r7⟩
          have flen : (A.flatMap encA).length = A.length * 3 := flatMap_len encA_len A
          by_cases hlt : j < i ∧ ring = true
          · obtain ⟨hlt, hring⟩ := hlt
            subst hring
            have w1 : wrapI .i64 ((j : Int) + 1) = ((j + 1 : Nat) : Int) := by rw [wrap64] <;> omega
            have ci : (i : Int) ≠ 0 := by omega
            have tm : ((j + 1 : Nat) : Int).tmod (i : Int) = (((j + 1) % i : Nat) : Int) := by rw [Int.tmod_eq_emod_of_nonneg (by omega)]; exact (Int.natCast_emod _ _).symm
            simp only [BS, Nat.add_zero, Nat.reduceLT, Nat.reduceEqDiff, if_true, if_false, List.getElem?_cons_zero, List.getElem?_cons_succ, decide_true, eq_self, Tryz.FFt839, r3, r6, r7, lt_nat, hlt, S.ld (b := b3) (o := 0) (by first | exact m0 | exact m1 | exact m2 | exact m3 | exact m4 | exact m5 | exact m6 | exact m7) rfl]
            refine draw_step (hoist_no rfl) (q := 2048) (ps := [(6, 9), (1, 9)]) (by kernel_rfl) ?_
            simp only [BS, cls, Nat.add_zero, Nat.reduceLT, Nat.reduceEqDiff, Nat.reduceAdd, if_true, if_false, List.map_cons, List.map_nil, List.append_nil, List.nil_append, Nat.reducePow, Nat.reduceDiv, Nat.reduceMod, Nat.reduceLeDiff, Bool.and_true, Bool.and_false, Nat.zero_add, decide_true, decide_false, eq_self, Tryz.FFt839, r0, r3, r7, w1, b_rem ci, tm, S.ld (b := b3) (o := 0) (by first | exact m0 | exact m1 | exact m2 | exact m3 | exact m4 | exact m5 | exact m6 | exact m7) rfl, S.ld (b := b3) (o := 3) (by first | exact m0 | exact m1 | exact m2 | exact m3 | exact m4 | exact m5 | exact m6 | exact m7) rfl]
            refine dn_ret (weight_ok (a := a) S.ok (S.row m2) (hd.mo S.fr (by omega)) (by omega)) ?_
            rintro v h ⟨f, wt, a4, rfl, hwt, ha4, R⟩
            have hl := S.leaves (c := b3) m0 f (by omega)
            replace S := S.call1 (i := 2) rfl f (o' := .row _ _) R
            simp only [List.set_cons_zero, List.set_cons_succ] at S
            simp only [BS, Option.isSome_some, cls, Nat.reduceLT, Nat.reduceEqDiff, Nat.reduceAdd, if_true, if_false, List.map_cons, List.map_nil, List.length_cons, List.length_nil, List.set_cons_zero, List.set_cons_succ, List.getElem?_cons_zero, List.getElem?_cons_succ, Nat.reducePow, Nat.reduceDiv, Nat.reduceMod, Nat.reduceLeDiff, Bool.and_true, Bool.and_false, Nat.zero_add, decide_true, decide_false, eq_self, Tryz.FFt839]
            refine dq_newS (bs_new (by first | exact Tryz.u22 | exact Tryz.u25 | exact Tryz.u26) (by first | exact Tryz.e2E | exact Tryz.e5E | exact Tryz.e60E) (by decide) (by first | rfl | exact fillE )) S ?_; clear S; intro h bs S n_bs e_bs; simp only [repL, setL, vcells, List.cons_append, List.nil_append, List.append_nil, List.set_cons_zero, List.set_cons_succ, Nat.reduceMul, Nat.reduceAdd, Nat.zero_mul, Nat.zero_add, Nat.mul_one, Nat.one_mul] at S
            simp only [BS, cls, Nat.reduceLT, Nat.reduceEqDiff, Nat.reduceAdd, if_true, if_false, Nat.reducePow, Nat.reduceDiv, Nat.reduceMod, Nat.reduceLeDiff, Bool.and_true, decide_true, decide_false, eq_self]
            refine dn_v (S.grow (j := 2) (m := 1) (new := encA ⟨j, (j + 1) % i, wt⟩) rfl Tryz.u26 Tryz.e60E (by decide) Tryz.n26 (by simp only [srcCells]; rw [S.lds (b := bs) (o := 0) (n := 1 * 3) m0 (Nat.le_of_ble_eq_true rfl)]; rfl) rfl (by decide) rfl (by rw [flen, encA_len]; omega)) ?_
            clear S
            rintro h vA' S
            simp only [List.set_cons_zero, List.set_cons_succ] at S
            replace S := S.drop1
            have fA : Fl vA' := (S.gown _ m2).1.fl
            simp only [BS, cls, Nat.reduceLT, Nat.reduceEqDiff, Nat.reduceAdd, if_true, if_false, Nat.reducePow, Nat.reduceDiv, Nat.reduceMod, Nat.reduceLeDiff, Bool.and_false, Nat.zero_add, decide_false, eq_self, Tryz.FFt839, r3]
            first | refine dn_u (store_fl S (i := 0) rfl (by simp only [Tryz.FFt839]) (by first | exact fl_int | exact fl_slice | exact fl_ptr | exact fl_bool | exact fl_map | exact fl_func | exact fl_nili | exact fl_iface | exact fl_nilf | exact fl_str | assumption) (Nat.lt_of_succ_le (Nat.le_of_ble_eq_true rfl)) Nat.one_ne_zero) ?_ | refine dn_u (store_fl S (i := 1) rfl (by simp only [Tryz.FFt839]) (by first | exact fl_int | exact fl_slice | exact fl_ptr | exact fl_bool | exact fl_map | exact fl_func | exact fl_nili | exact fl_iface | exact fl_nilf | exact fl_str | assumption) (Nat.lt_of_succ_le (Nat.le_of_ble_eq_true rfl)) Nat.one_ne_zero) ?_ | refine dn_u (store_fl S (i := 2) rfl (by simp only [Tryz.FFt839]) (by first | exact fl_int | exact fl_slice | exact fl_ptr | exact fl_bool | exact fl_map | exact fl_func | exact fl_nili | exact fl_iface | exact fl_nilf | exact fl_str | assumption) (Nat.lt_of_succ_le (Nat.le_of_ble_eq_true rfl)) Nat.one_ne_zero) ?_ | refine dn_u (store_fl S (i := 3) rfl (by simp only [Tryz.FFt839]) (by first | exact fl_int | exact fl_slice | exact fl_ptr | exact fl_bool | exact fl_map | exact fl_func | exact fl_nili | exact fl_iface | exact fl_nilf | exact fl_str | assumption) (Nat.lt_of_succ_le (Nat.le_of_ble_eq_true rfl)) Nat.one_ne_zero) ?_ | refine dn_u (store_fl S (i := 4) rfl (by simp only [Tryz.FFt839]) (by first | exact fl_int | exact fl_slice | exact fl_ptr | exact fl_bool | exact fl_map | exact fl_func | exact fl_nili | exact fl_iface | exact fl_nilf | exact fl_str | assumption) (Nat.lt_of_succ_le (Nat.le_of_ble_eq_true rfl)) Nat.one_ne_zero) ?_ | refine dn_u (store_fl S (i := 5) rfl (by simp only [Tryz.FFt839]) (by first | exact fl_int | exact fl_slice | exact fl_ptr | exact fl_bool | exact fl_map | exact fl_func | exact fl_nili | exact fl_iface | exact fl_nilf | exact fl_str | assumption) (Nat.lt_of_succ_le (Nat.le_of_ble_eq_true rfl)) Nat.one_ne_zero) ?_ | refine dn_u (store_fl S (i := 6) rfl (by simp only [Tryz.FFt839]) (by first | exact fl_int | exact fl_slice | exact fl_ptr | exact fl_bool | exact fl_map | exact fl_func | exact fl_nili | exact fl_iface | exact fl_nilf | exact fl_str | assumption) (Nat.lt_of_succ_le (Nat.le_of_ble_eq_true rfl)) Nat.one_ne_zero) ?_ | refine dn_u (store_fl S (i := 7) rfl (by simp only [Tryz.FFt839]) (by first | exact fl_int | exact fl_slice | exact fl_ptr | exact fl_bool | exact fl_map | exact fl_func | exact fl_nili | exact fl_iface | exact fl_nilf | exact fl_str | assumption) (Nat.lt_of_succ_le (Nat.le_of_ble_eq_true rfl)) Nat.one_ne_zero) ?_
            clear S; rintro h ⟨S, mo⟩; clear mo; simp only [List.set_cons_zero, List.set_cons_succ, vcells, lay, List.take, List.drop, List.nil_append, List.cons_append, List.append_nil, List.length_cons, List.length_nil, Nat.reduceAdd, Nat.add_zero] at S
            simp only [BS, Nat.reduceLT, Nat.reduceEqDiff, Nat.reduceAdd, if_true, if_false, eq_self, r7]
            refine ⟨by simp only [pairs_cons, pairs_nil, entry_noted, entry_hit, entry_miss, ne_eq, not_false_eq_true, note_load, note_run, note_alloc, noted_some, ll_tmp, ll_put, setR_at, Nat.reduceLT, Nat.reduceEqDiff, reduceIte, Bool.and_true, r3, ptr_eq, pair_br hl], ?_⟩
            simp only [w1]
            have hmod : (j + 1) % i < i := Nat.mod_lt _ (by omega)
            exact ih (j + 1) _ _ (by omega) ⟨by omega, a4, vA', A ++ [⟨j, (j + 1) % i, wt⟩], by omega, by simp; omega,
              fun x hx => (List.mem_append.1 hx).elim (cA x) (fun h => by simp at h; subst h; exact ⟨hlt, hmod, hwt⟩), by rw [List.flatMap_append]; simpa using S, by simp [setR, r0, ptr_eq], by simp [setR, r2, ptr_eq], by simp [setR, r3, ptr_eq], by simp [setR, r5], by simp [setR, r6], by simp [setR]⟩
          · by_cases hji : j < i
            · have hring : ring = false := by cases ring with
                | false => rfl
                | true => exact absurd ⟨hji, rfl⟩ hlt
              subst hring
              simp only [BS, Nat.add_zero, Nat.reduceLT, Nat.reduceEqDiff, if_true, if_false, List.getElem?_cons_zero, List.getElem?_cons_succ, decide_true, eq_self, Tryz.FFt839, r3, r6, r7, lt_nat, hji, S.ld (b := b3) (o := 0) (by first | exact m0 | exact m1 | exact m2 | exact m3 | exact m4 | exact m5 | exact m6 | exact m7) rfl]
              exact jp_normal ⟨a, vA, A, by omega, by omega, cA, S, by simp [setR, r0, ptr_eq], by simp [setR, r2, ptr_eq], by simp [setR, r3, ptr_eq], by simp [setR, r5]⟩
            · simp only [BS, Nat.add_zero, Nat.reduceLT, Nat.reduceEqDiff, if_true, if_false, List.getElem?_cons_zero, List.getElem?_cons_succ, decide_false, eq_self, Tryz.FFt839, r3, r7, lt_nat, hji, S.ld (b := b3) (o := 0) (by first | exact m0 | exact m1 | exact m2 | exact m3 | exact m4 | exact m5 | exact m6 | exact m7) rfl]
              exact jp_normal ⟨a, vA, A, by omega, by omega, cA, S, by simp [setR, r0, ptr_eq], by simp [setR, r2, ptr_eq], by simp [setR, r3, ptr_eq], by simp [setR, r5]⟩
        · clear S r0 r2 r3 f R ih
          rintro ρ h ⟨a, vA, A, ha, lA, cA, S, r0, r2, r3, r5⟩
          simp only [BS]
          refine loop_cut (fun ρ h => ∃ (a : Nat) (vA : Value) (A : List Arc), A.length ≤ 100 ∧ (∀ x ∈ A, x.s < i ∧ x.t < i ∧ x.w ≤ 2147483647) ∧
            St (· = bd) h0 h [(b3, .row [.int .i64 i, vX, vY, vA] 1), (b2, .row [.int .i64 0, .slice none 0 0, .slice none 0 0, .slice none 0 0] 1), (bd, .row [vB, .int .i64 a] 1)] [(vX, 1, ints X), (vY, 1, ints Y), (vA, 3, A.flatMap encA)] ∧
            ρ 0 = ptrTo bd ∧ ρ 2 = ptrTo b2 ∧ ρ 3 = ptrTo b3)
            (fun (k : Nat) ρ h => k ≤ many ∧ ∃ (a : Nat) (vA : Value) (A : List Arc), a ≤ a3 + 2 * i + 6 * k ∧ A.length ≤ i + 2 * k ∧ (∀ x ∈ A, x.s < i ∧ x.t < i ∧ x.w ≤ 2147483647) ∧
            St (· = bd) h0 h [(b3, .row [.int .i64 i, vX, vY, vA] 1), (b2, .row [.int .i64 0, .slice none 0 0, .slice none 0 0, .slice none 0 0] 1), (bd, .row [vB, .int .i64 a] 1)] [(vX, 1, ints X), (vY, 1, ints Y), (vA, 3, A.flatMap encA)] ∧
            ρ 0 = ptrTo bd ∧ ρ 2 = ptrTo b2 ∧ ρ 3 = ptrTo b3 ∧ ρ 5 = .int .i64 many ∧ ρ 8 = .int .i64 k) (fun k => many - k) ?_ ?_ 0 ⟨by omega, a, vA, A, by omega, by omega, cA, S, by simp [setR, r0, ptr_eq], by simp [setR, r2, ptr_eq], by simp [setR, r3, ptr_eq], by simp [setR, r5], by simp [setR]⟩
          · clear S r0 r2 r3 r5 ha lA cA a vA A
            intro k ih ρ h ⟨hk, a, vA, A, ha, lA, cA, S, r0, r2, r3, r5, r8⟩
            have flen : (A.flatMap encA).length = A.length * 3 := flatMap_len encA_len A
            by_cases hlt : k < many
            · simp only [BS, Nat.reduceLT, Nat.reduceEqDiff, if_true, if_false, decide_true, eq_self, r5, r8, lt_nat, hlt]
              refine draw_step (hoist_yes (ord := [11, 0, 1, 2, 3, 4, 5, 6, 7, 8, 9, 10, 12]) rfl rfl (by simp only [pickL, reix, posOf, List.getElem?_cons_zero, List.getElem?_cons_succ, List.map_toArray, List.map_cons, List.map_nil, Nat.reduceBEq, cond_true, cond_false]; exact rfl)) (q := 1) (ps := [(0, 10), (0, 8), (4, 7), (0, 4)]) (by kernel_rfl) ?_
              simp only [BS, cls, Nat.reducePow, Nat.reduceDiv, Nat.reduceMod, Nat.reduceLeDiff, Bool.and_true, Nat.zero_add, decide_true, eq_self, Tryz.FFt839]
              refine dq_newS allocR_new S ?_; clear S; intro h b9 S n_b9 e_b9
              simp only [BS, cls, Nat.add_zero, Nat.reduceLT, Nat.reduceEqDiff, Nat.reduceAdd, if_true, if_false, List.map_cons, List.map_nil, List.append_nil, List.nil_append, Nat.reducePow, Nat.reduceDiv, Nat.reduceMod, Nat.reduceLeDiff, Bool.and_true, Bool.and_false, Nat.zero_add, decide_true, decide_false, eq_self, Tryz.FFt839, r0, r3, S.ld (b := b3) (o := 0) (by first | exact m0 | exact m1 | exact m2 | exact m3 | exact m4 | exact m5 | exact m6 | exact m7) rfl]
              refine dn_ret (next_ok (n := i) (a := a) S.ok (S.row m3) (hd.mo S.fr (by omega)) (by omega) (by omega)) ?_
              rintro v h ⟨f, s1, a4, rfl, hs1, ha4, R⟩
              have hl0 := S.leaves (c := b9) m0 f (by omega)
              have hl4 := S.leaves (c := b3) m1 f (by omega)
              replace S := S.call1 (i := 3) rfl f (o' := .row _ _) R
              simp only [List.set_cons_zero, List.set_cons_succ] at S
              simp only [BS, cls, Nat.add_zero, Nat.reduceLT, Nat.reduceEqDiff, Nat.reduceAdd, if_true, if_false, List.map_cons, List.map_nil, List.append_nil, List.nil_append, Nat.reducePow, Nat.reduceDiv, Nat.reduceMod, Nat.reduceLeDiff, Bool.and_true, Bool.and_false, decide_true, decide_false, eq_self, Tryz.FFt839, r0, r3, S.ld (b := b3) (o := 0) (by first | exact m0 | exact m1 | exact m2 | exact m3 | exact m4 | exact m5 | exact m6 | exact m7) rfl]
              refine dn_ret (next_ok (n := i) (a := a4) S.ok (S.row m3) (hd.mo S.fr (by omega)) (by omega) (by omega)) ?_
              rintro v h ⟨f, s2, a5, rfl, hs2, ha5, R⟩
              have hl1 := S.leaves (c := b9) m0 f (by omega)
              have hl2 := S.leaves (c := b3) m1 f (by omega)
              replace S := S.call1 (i := 3) rfl f (o' := .row _ _) R
              simp only [List.set_cons_zero, List.set_cons_succ] at S
              simp only [BS, cls, Nat.reduceLT, Nat.reduceEqDiff, Nat.reduceAdd, if_true, if_false, List.map_cons, List.map_nil, List.append_nil, List.nil_append, Nat.reducePow, Nat.reduceDiv, Nat.reduceMod, Nat.reduceLeDiff, Bool.and_true, Bool.and_false, decide_true, decide_false, eq_self, r0]
              refine dn_ret (weight_ok (a := a5) S.ok (S.row m3) (hd.mo S.fr (by omega)) (by omega)) ?_
              rintro v h ⟨f, wt, a6, rfl, hwt, ha6, R⟩
              have hl3 := S.leaves (c := b9) m0 f (by omega)
              replace S := S.call1 (i := 3) rfl f (o' := .row _ _) R
              simp only [List.set_cons_zero, List.set_cons_succ] at S
              simp only [BS, Option.isSome_some, cls, Nat.reduceLT, Nat.reduceEqDiff, Nat.reduceAdd, if_true, if_false, List.map_cons, List.map_nil, List.length_cons, List.length_nil, List.set_cons_zero, List.set_cons_succ, List.getElem?_cons_zero, List.getElem?_cons_succ, Nat.reducePow, Nat.reduceDiv, Nat.reduceMod, Nat.reduceLeDiff, Bool.and_false, Nat.zero_add, decide_false, eq_self, Tryz.FFt839]
              first | refine dn_u (S.store (i := 0) rfl (by first | exact Tryz.s7 | exact Tryz.s8 | exact Tryz.s13 | exact Tryz.s14 | exact Tryz.s18 | exact Tryz.s19 | exact Tryz.s23 | exact Tryz.s28 | exact Tryz.s60 | exact Tryz.s84 | exact Tryz.s276 | exact Tryz.s277 | exact Tryz.s279 | exact Tryz.s286) (by intro x e; cases e) rfl rfl (Nat.le_of_ble_eq_true rfl) Nat.one_ne_zero) ?_ | refine dn_u (S.store (i := 1) rfl (by first | exact Tryz.s7 | exact Tryz.s8 | exact Tryz.s13 | exact Tryz.s14 | exact Tryz.s18 | exact Tryz.s19 | exact Tryz.s23 | exact Tryz.s28 | exact Tryz.s60 | exact Tryz.s84 | exact Tryz.s276 | exact Tryz.s277 | exact Tryz.s279 | exact Tryz.s286) (by intro x e; cases e) rfl rfl (Nat.le_of_ble_eq_true rfl) Nat.one_ne_zero) ?_ | refine dn_u (S.store (i := 2) rfl (by first | exact Tryz.s7 | exact Tryz.s8 | exact Tryz.s13 | exact Tryz.s14 | exact Tryz.s18 | exact Tryz.s19 | exact Tryz.s23 | exact Tryz.s28 | exact Tryz.s60 | exact Tryz.s84 | exact Tryz.s276 | exact Tryz.s277 | exact Tryz.s279 | exact Tryz.s286) (by intro x e; cases e) rfl rfl (Nat.le_of_ble_eq_true rfl) Nat.one_ne_zero) ?_ | refine dn_u (S.store (i := 3) rfl (by first | exact Tryz.s7 | exact Tryz.s8 | exact Tryz.s13 | exact Tryz.s14 | exact Tryz.s18 | exact Tryz.s19 | exact Tryz.s23 | exact Tryz.s28 | exact Tryz.s60 | exact Tryz.s84 | exact Tryz.s276 | exact Tryz.s277 | exact Tryz.s279 | exact Tryz.s286) (by intro x e; cases e) rfl rfl (Nat.le_of_ble_eq_true rfl) Nat.one_ne_zero) ?_ | refine dn_u (S.store (i := 4) rfl (by first | exact Tryz.s7 | exact Tryz.s8 | exact Tryz.s13 | exact Tryz.s14 | exact Tryz.s18 | exact Tryz.s19 | exact Tryz.s23 | exact Tryz.s28 | exact Tryz.s60 | exact Tryz.s84 | exact Tryz.s276 | exact Tryz.s277 | exact Tryz.s279 | exact Tryz.s286) (by intro x e; cases e) rfl rfl (Nat.le_of_ble_eq_true rfl) Nat.one_ne_zero) ?_ | refine dn_u (S.store (i := 5) rfl (by first | exact Tryz.s7 | exact Tryz.s8 | exact Tryz.s13 | exact Tryz.s14 | exact Tryz.s18 | exact Tryz.s19 | exact Tryz.s23 | exact Tryz.s28 | exact Tryz.s60 | exact Tryz.s84 | exact Tryz.s276 | exact Tryz.s277 | exact Tryz.s279 | exact Tryz.s286) (by intro x e; cases e) rfl rfl (Nat.le_of_ble_eq_true rfl) Nat.one_ne_zero) ?_ | refine dn_u (S.store (i := 6) rfl (by first | exact Tryz.s7 | exact Tryz.s8 | exact Tryz.s13 | exact Tryz.s14 | exact Tryz.s18 | exact Tryz.s19 | exact Tryz.s23 | exact Tryz.s28 | exact Tryz.s60 | exact Tryz.s84 | exact Tryz.s276 | exact Tryz.s277 | exact Tryz.s279 | exact Tryz.s286) (by intro x e; cases e) rfl rfl (Nat.le_of_ble_eq_true rfl) Nat.one_ne_zero) ?_ | refine dn_u (S.store (i := 7) rfl (by first | exact Tryz.s7 | exact Tryz.s8 | exact Tryz.s13 | exact Tryz.s14 | exact Tryz.s18 | exact Tryz.s19 | exact Tryz.s23 | exact Tryz.s28 | exact Tryz.s60 | exact Tryz.s84 | exact Tryz.s276 | exact Tryz.s277 | exact Tryz.s279 | exact Tryz.s286) (by intro x e; cases e) rfl rfl (Nat.le_of_ble_eq_true rfl) Nat.one_ne_zero) ?_
              clear S; rintro h ⟨S, mo⟩; clear mo; simp only [List.set_cons_zero, List.set_cons_succ, vcells, lay, List.take, List.drop, List.nil_append, List.cons_append, List.append_nil, List.length_cons, List.length_nil, Nat.reduceAdd, Nat.add_zero] at S
              simp only [BS, Nat.reduceLT, Nat.reduceEqDiff, Nat.reduceAdd, if_true, if_false, Nat.zero_add, eq_self, Tryz.FFt839, r3]
              refine ⟨by simp only [pairs_cons, pairs_nil, entry_noted, entry_hit, entry_miss, ne_eq, not_false_eq_true, note_load, note_run, note_alloc, noted_some, ll_tmp, ll_put, setR_at, Nat.reduceLT, Nat.reduceEqDiff, reduceIte, Bool.and_true, r3, ptr_eq, ← e_b9, pair_br hl0, pair_br hl1, pair_br hl2, pair_br hl3, pair_rb hl4], ?_⟩
              simp only [BS, Nat.reduceLT, Nat.reduceEqDiff, if_true, if_false, List.map_cons, List.map_nil, eq_self, Tryz.FFt839, S.ld (b := b3) (o := 3) (by first | exact m0 | exact m1 | exact m2 | exact m3 | exact m4 | exact m5 | exact m6 | exact m7) rfl, S.lds (b := b9) (o := 0) (n := 3) (by first | exact m0 | exact m1 | exact m2 | exact m3 | exact m4 | exact m5 | exact m6 | exact m7) (Nat.le_of_ble_eq_true rfl)]
              refine step_newS (bs_new (by first | exact Tryz.u22 | exact Tryz.u25 | exact Tryz.u26) (by first | exact Tryz.e2E | exact Tryz.e5E | exact Tryz.e60E) (by decide) (by first | rfl | exact fillE )) S ?_; clear S; intro h bs S n_bs; simp only [repL, setL, vcells, List.cons_append, List.nil_append, List.append_nil, List.set_cons_zero, List.set_cons_succ, Nat.reduceMul, Nat.reduceAdd, Nat.zero_mul, Nat.zero_add, Nat.mul_one, Nat.one_mul] at S
              simp only [BS, Nat.reduceLT, Nat.reduceEqDiff, if_true, if_false, eq_self]
              refine step_v (S.grow (j := 2) (m := 1) (new := encA ⟨s1, s2, wt⟩) rfl Tryz.u26 Tryz.e60E (by decide) Tryz.n26 (by simp only [srcCells]; rw [S.lds (b := bs) (o := 0) (n := 1 * 3) m0 (Nat.le_of_ble_eq_true rfl)]; rfl) rfl (by decide) rfl (by rw [flen, encA_len]; omega)) ?_
              clear S
              rintro h vA' S
              simp only [List.set_cons_zero, List.set_cons_succ] at S
              replace S := S.drop1
              have fA : Fl vA' := (S.gown _ m2).1.fl
              simp only [BS, Nat.reduceLT, Nat.reduceEqDiff, if_true, if_false, Nat.zero_add, eq_self, Tryz.FFt839, r3]
              first | refine step_u (store_fl S (i := 0) rfl (by simp only [Tryz.FFt839]) (by first | exact fl_int | exact fl_slice | exact fl_ptr | exact fl_bool | exact fl_map | exact fl_func | exact fl_nili | exact fl_iface | exact fl_nilf | exact fl_str | assumption) (Nat.lt_of_succ_le (Nat.le_of_ble_eq_true rfl)) Nat.one_ne_zero) ?_ | refine step_u (store_fl S (i := 1) rfl (by simp only [Tryz.FFt839]) (by first | exact fl_int | exact fl_slice | exact fl_ptr | exact fl_bool | exact fl_map | exact fl_func | exact fl_nili | exact fl_iface | exact fl_nilf | exact fl_str | assumption) (Nat.lt_of_succ_le (Nat.le_of_ble_eq_true rfl)) Nat.one_ne_zero) ?_ | refine step_u (store_fl S (i := 2) rfl (by simp only [Tryz.FFt839]) (by first | exact fl_int | exact fl_slice | exact fl_ptr | exact fl_bool | exact fl_map | exact fl_func | exact fl_nili | exact fl_iface | exact fl_nilf | exact fl_str | assumption) (Nat.lt_of_succ_le (Nat.le_of_ble_eq_true rfl)) Nat.one_ne_zero) ?_ | refine step_u (store_fl S (i := 3) rfl (by simp only [Tryz.FFt839]) (by first | exact fl_int | exact fl_slice | exact fl_ptr | exact fl_bool | exact fl_map | exact fl_func | exact fl_nili | exact fl_iface | exact fl_nilf | exact fl_str | assumption) (Nat.lt_of_succ_le (Nat.le_of_ble_eq_true rfl)) Nat.one_ne_zero) ?_ | refine step_u (store_fl S (i := 4) rfl (by simp only [Tryz.FFt839]) (by first | exact fl_int | exact fl_slice | exact fl_ptr | exact fl_bool | exact fl_map | exact fl_func | exact fl_nili | exact fl_iface | exact fl_nilf | exact fl_str | assumption) (Nat.lt_of_succ_le (Nat.le_of_ble_eq_true rfl)) Nat.one_ne_zero) ?_ | refine step_u (store_fl S (i := 5) rfl (by simp only [Tryz.FFt839]) (by first | exact fl_int | exact fl_slice | exact fl_ptr | exact fl_bool | exact fl_map | exact fl_func | exact fl_nili | exact fl_iface | exact fl_nilf | exact fl_str | assumption) (Nat.lt_of_succ_le (Nat.le_of_ble_eq_true rfl)) Nat.one_ne_zero) ?_ | refine step_u (store_fl S (i := 6) rfl (by simp only [Tryz.FFt839]) (by first | exact fl_int | exact fl_slice | exact fl_ptr | exact fl_bool | exact fl_map | exact fl_func | exact fl_nili | exact fl_iface | exact fl_nilf | exact fl_str | assumption) (Nat.lt_of_succ_le (Nat.le_of_ble_eq_true rfl)) Nat.one_ne_zero) ?_ | refine step_u (store_fl S (i := 7) rfl (by simp only [Tryz.FFt839]) (by first | exact fl_int | exact fl_slice | exact fl_ptr | exact fl_bool | exact fl_map | exact fl_func | exact fl_nili | exact fl_iface | exact fl_nilf | exact fl_str | assumption) (Nat.lt_of_succ_le (Nat.le_of_ble_eq_true rfl)) Nat.one_ne_zero) ?_
              clear S; rintro h ⟨S, mo⟩; clear mo; simp only [List.set_cons_zero, List.set_cons_succ, vcells, lay, List.take, List.drop, List.nil_append, List.cons_append, List.append_nil, List.length_cons, List.length_nil, Nat.reduceAdd, Nat.add_zero] at S
              simp only [BS, Nat.reduceLT, Nat.reduceEqDiff, if_true, if_false, List.map_cons, List.map_nil, List.append_nil, List.nil_append, eq_self, r0]
              refine step_ret (next_ok (n := 4) (a := a6) S.ok (S.row m3) (hd.mo S.fr (by omega)) (by omega) (by omega)) ?_
              rintro v h ⟨f, r9, a7, rfl, hr9, ha7, R⟩
              replace S := S.call1 (i := 3) rfl f (o' := .row _ _) R
              simp only [List.set_cons_zero, List.set_cons_succ] at S
              have w8 : wrapI .i64 ((k : Int) + 1) = ((k + 1 : Nat) : Int) := by rw [wrap64] <;> omega
              have flen' : (A.flatMap encA ++ encA ⟨s1, s2, wt⟩).length = A.length * 3 + 3 := by rw [List.length_append, flen, encA_len]
              have cA' : ∀ x ∈ A ++ [(⟨s1, s2, wt⟩ : Arc)], x.s < i ∧ x.t < i ∧ x.w ≤ 2147483647 := fun x hx => (List.mem_append.1 hx).elim (cA x) (fun h => by simp at h; subst h; exact ⟨hs1, hs2, hwt⟩)
              by_cases hz : (r9 : Int) = 0
              · simp only [BS, Option.isSome_some, Nat.add_zero, Nat.reduceLT, Nat.reduceEqDiff, Nat.reduceAdd, if_true, if_false, List.map_cons, List.map_nil, List.length_cons, List.length_nil, List.set_cons_zero, List.set_cons_succ, List.getElem?_cons_zero, List.getElem?_cons_succ, Nat.zero_add, decide_true, eq_self, Tryz.FFt839, r3, hz, S.ld (b := b3) (o := 3) (by first | exact m0 | exact m1 | exact m2 | exact m3 | exact m4 | exact m5 | exact m6 | exact m7) rfl, S.ld (b := b9) (o := 0) (by first | exact m0 | exact m1 | exact m2 | exact m3 | exact m4 | exact m5 | exact m6 | exact m7) rfl, S.ld (b := b9) (o := 1) (by first | exact m0 | exact m1 | exact m2 | exact m3 | exact m4 | exact m5 | exact m6 | exact m7) rfl, S.ld (b := b9) (o := 2) (by first | exact m0 | exact m1 | exact m2 | exact m3 | exact m4 | exact m5 | exact m6 | exact m7) rfl]
                refine step_newS (bs_new (by first | exact Tryz.u22 | exact Tryz.u25 | exact Tryz.u26) (by first | exact Tryz.e2E | exact Tryz.e5E | exact Tryz.e60E) (by decide) (by first | rfl | exact fillE )) S ?_; clear S; intro h bs S n_bs; simp only [repL, setL, vcells, List.cons_append, List.nil_append, List.append_nil, List.set_cons_zero, List.set_cons_succ, Nat.reduceMul, Nat.reduceAdd, Nat.zero_mul, Nat.zero_add, Nat.mul_one, Nat.one_mul] at S
                simp only [BS, Nat.reduceLT, Nat.reduceEqDiff, if_true, if_false, eq_self]
                refine step_v (S.grow (j := 2) (m := 1) (new := encA ⟨s2, s1, wt⟩) rfl Tryz.u26 Tryz.e60E (by decide) Tryz.n26 (by simp only [srcCells]; rw [S.lds (b := bs) (o := 0) (n := 1 * 3) m0 (Nat.le_of_ble_eq_true rfl)]; rfl) rfl (by decide) rfl (by rw [flen', encA_len]; omega)) ?_
                clear S
                rintro h vA2 S
                simp only [List.set_cons_zero, List.set_cons_succ] at S
                replace S := S.drop1
                have fA : Fl vA2 := (S.gown _ m2).1.fl
                simp only [BS, Nat.reduceLT, Nat.reduceEqDiff, if_true, if_false, Nat.zero_add, eq_self, Tryz.FFt839, r3]
                first | refine step_u (store_fl S (i := 0) rfl (by simp only [Tryz.FFt839]) (by first | exact fl_int | exact fl_slice | exact fl_ptr | exact fl_bool | exact fl_map | exact fl_func | exact fl_nili | exact fl_iface | exact fl_nilf | exact fl_str | assumption) (Nat.lt_of_succ_le (Nat.le_of_ble_eq_true rfl)) Nat.one_ne_zero) ?_ | refine step_u (store_fl S (i := 1) rfl (by simp only [Tryz.FFt839]) (by first | exact fl_int | exact fl_slice | exact fl_ptr | exact fl_bool | exact fl_map | exact fl_func | exact fl_nili | exact fl_iface | exact fl_nilf | exact fl_str | assumption) (Nat.lt_of_succ_le (Nat.le_of_ble_eq_true rfl)) Nat.one_ne_zero) ?_ | refine step_u (store_fl S (i := 2) rfl (by simp only [Tryz.FFt839]) (by first | exact fl_int | exact fl_slice | exact fl_ptr | exact fl_bool | exact fl_map | exact fl_func | exact fl_nili | exact fl_iface | exact fl_nilf | exact fl_str | assumption) (Nat.lt_of_succ_le (Nat.le_of_ble_eq_true rfl)) Nat.one_ne_zero) ?_ | refine step_u (store_fl S (i := 3) rfl (by simp only [Tryz.FFt839]) (by first | exact fl_int | exact fl_slice | exact fl_ptr | exact fl_bool | exact fl_map | exact fl_func | exact fl_nili | exact fl_iface | exact fl_nilf | exact fl_str | assumption) (Nat.lt_of_succ_le (Nat.le_of_ble_eq_true rfl)) Nat.one_ne_zero) ?_ | refine step_u (store_fl S (i := 4) rfl (by simp only [Tryz.FFt839]) (by first | exact fl_int | exact fl_slice | exact fl_ptr | exact fl_bool | exact fl_map | exact fl_func | exact fl_nili | exact fl_iface | exact fl_nilf | exact fl_str | assumption) (Nat.lt_of_succ_le (Nat.le_of_ble_eq_true rfl)) Nat.one_ne_zero) ?_ | refine step_u (store_fl S (i := 5) rfl (by simp only [Tryz.FFt839]) (by first | exact fl_int | exact fl_slice | exact fl_ptr | exact fl_bool | exact fl_map | exact fl_func | exact fl_nili | exact fl_iface | exact fl_nilf | exact fl_str | assumption) (Nat.lt_of_succ_le (Nat.le_of_ble_eq_true rfl)) Nat.one_ne_zero) ?_ | refine step_u (store_fl S (i := 6) rfl (by simp only [Tryz.FFt839]) (by first | exact fl_int | exact fl_slice | exact fl_ptr | exact fl_bool | exact fl_map | exact fl_func | exact fl_nili | exact fl_iface | exact fl_nilf | exact fl_str | assumption) (Nat.lt_of_succ_le (Nat.le_of_ble_eq_true rfl)) Nat.one_ne_zero) ?_ | refine step_u (store_fl S (i := 7) rfl (by simp only [Tryz.FFt839]) (by first | exact fl_int | exact fl_slice | exact fl_ptr | exact fl_bool | exact fl_map | exact fl_func | exact fl_nili | exact fl_iface | exact fl_nilf | exact fl_str | assumption) (Nat.lt_of_succ_le (Nat.le_of_ble_eq_true rfl)) Nat.one_ne_zero) ?_
                clear S; rintro h ⟨S, mo⟩; clear mo; simp only [List.set_cons_zero, List.set_cons_succ, vcells, lay, List.take, List.drop, List.nil_append, List.cons_append, List.append_nil, List.length_cons, List.length_nil, Nat.reduceAdd, Nat.add_zero] at S
                simp only [BS, Nat.reduceLT, Nat.reduceEqDiff, if_true, if_false, eq_self, r8, w8]
                replace S := S.drop1
                exact ih (k + 1) _ _ (by omega) ⟨by omega, a7, vA2, A ++ [⟨s1, s2, wt⟩] ++ [⟨s2, s1, wt⟩], by omega, by simp; omega,
                  fun x hx => (List.mem_append.1 hx).elim (cA' x) (fun h => by simp at h; subst h; exact ⟨hs2, hs1, hwt⟩), by rw [List.flatMap_append, List.flatMap_append]; simpa using S, by simp [setR, r0, ptr_eq], by simp [setR, r2, ptr_eq], by simp [setR, r3, ptr_eq], by simp [setR, r5], by simp [setR]⟩
              · simp only [BS, Nat.reduceLT, Nat.reduceEqDiff, if_true, if_false, decide_false, eq_self, r8, hz, w8]
                replace S := S.drop1
                exact ih (k + 1) _ _ (by omega) ⟨by omega, a7, vA', A ++ [⟨s1, s2, wt⟩], by omega, by simp; omega,
                  cA', by rw [List.flatMap_append]; simpa using S, by simp [setR, r0, ptr_eq], by simp [setR, r2, ptr_eq], by simp [setR, r3, ptr_eq], by simp [setR, r5], by simp [setR]⟩
            · simp only [BS, Nat.reduceLT, Nat.reduceEqDiff, if_true, if_false, decide_false, eq_self, r5, r8, lt_nat, hlt]
              exact jp_normal ⟨a, vA, A, by omega, cA, S, by simp [setR, r0, ptr_eq], by simp [setR, r2, ptr_eq], by simp [setR, r3, ptr_eq]⟩
          · clear S r0 r2 r3 r5 ha lA cA a vA A
            rintro ρ h ⟨a, vA, A, lA, cA, S, r0, r2, r3⟩
            simp only [BS, Nat.reduceLT, Nat.reduceEqDiff, if_true, if_false, eq_self, Tryz.FFt839, r2, r3, S.lds (b := b3) (o := 0) (n := 4) (by first | exact m0 | exact m1 | exact m2 | exact m3 | exact m4 | exact m5 | exact m6 | exact m7) (Nat.le_of_ble_eq_true rfl)]
            have fX : Fl vX := (S.gown _ m0).1.fl
            have fY : Fl vY := (S.gown _ m1).1.fl
            have fA : Fl vA := (S.gown _ m2).1.fl
            refine step_u (S.store (i := 1) rfl Tryz.s28 (by intro x e; cases e) rfl (by simp only [vcells, List.take, List.drop, List.all_cons, List.all_nil, fX.2.1, fY.2.1, fA.2.1, Bool.and_true]; rfl) (Nat.le_of_ble_eq_true rfl) Nat.one_ne_zero) ?_
            clear S; rintro h ⟨S, _⟩
            simp only [List.set_cons_zero, List.set_cons_succ, vcells, lay, List.take, List.drop, List.nil_append, List.cons_append, List.append_nil, List.length_cons, List.length_nil, Nat.reduceAdd, Nat.add_zero] at S
            simp only [BS, tupleOf]
            refine ⟨_, rr_cell (by decide) (by simp only [setR_at, r2, ptr_eq, Nat.reduceEqDiff, reduceIte]; exact loadV_aggr Tryz.a28 Tryz.s28 (S.lds (b := b2) (o := 0) (n := 4) m1 (Nat.le_of_ble_eq_true rfl))), ?_⟩
            have blk : ∀ p ∈ [(vX, 1, ints X), (vY, 1, ints Y), (vA, 3, A.flatMap encA)], ∀ c, blkOf p.1 c → h0.n ≤ c := by
              intro p hp c hc
              obtain ⟨h1, h2⟩ := S.gblk hp hc
              rcases h1 with h1 | h1
              · exact h1
              · exact absurd (by simp [h1]) h2
            refine ⟨S.fr, ⟨i, X, Y, A⟩, vX, vY, vA, rfl, ⟨show 1 ≤ i by omega, show i ≤ 12 by omega, lX, lY, cX, cY, lA, cA⟩, ⟨(S.gown _ m0).1.sl rfl (fun _ => rfl) (by decide), (S.gown _ m1).1.sl rfl (fun _ => rfl) (by decide), (S.gown _ m2).1.sl rfl (fun _ => rfl) (by decide)⟩, ?_⟩
            rintro c (hc | hc | hc)
            · exact blk _ m0 c hc
            · exact blk _ m1 c hc
            · exact blk _ m2 c hc
  · exact ⟨by omega, a0, _, _, [], [], by omega, rfl, rfl, by simp, by simp, S, by simp [setR, argR, ptr_eq], by simp [setR, ptr_eq], by simp [setR, ptr_eq], by simp [setR]⟩
end Go.Ab

end
section
/- net.own. -/
set_option maxHeartbeats 4000000

set_option linter.unusedVariables false
namespace Go.Ab
open Go.Proofs
set_option maxRecDepth 10000
set_option linter.defProp false
def Tryz.FFt997 := And.intro Tryz.a1 <| And.intro Tryz.s1 <| And.intro Tryz.z1 <| And.intro Tryz.n1 <| And.intro Tryz.u2 <| And.intro Tryz.a2 <| And.intro Tryz.s2 <| And.intro Tryz.z2 <| And.intro Tryz.i2 <| And.intro Tryz.u3 <| And.intro Tryz.a3 <| And.intro Tryz.s3 <| And.intro Tryz.z3 <| And.intro Tryz.i3 <| And.intro Tryz.u25 <| And.intro Tryz.a25 <| And.intro Tryz.s25 <| And.intro Tryz.z25 <| And.intro Tryz.q25 <| And.intro Tryz.n25 <| And.intro Tryz.u26 <| And.intro Tryz.a26 <| And.intro Tryz.s26 <| And.intro Tryz.z26 <| And.intro Tryz.q26 <| And.intro Tryz.n26 <| And.intro Tryz.a28 <| And.intro Tryz.s28 <| And.intro Tryz.z28 <| And.intro Tryz.i28 <| And.intro Tryz.n28 <| And.intro Tryz.p28 <| And.intro Tryz.ff28 <| And.intro Tryz.d28 <| And.intro Tryz.a60 <| And.intro Tryz.s60 <| And.intro Tryz.z60 <| And.intro Tryz.i60 <| And.intro Tryz.n60 <| And.intro Tryz.p60 <| And.intro Tryz.ff60 <| Tryz.d60
theorem leaves_gr {h h' : Hp} {b : Nat} (g : Gr h h') (hb : b < h.n) : leaves h h' b = true := leaves_same (g.get b hb)
theorem own_ok {h0 : Hp} (ok : h0.t.Sized h0.n) {γ : Gra} (hγ : Good γ) {vx vy va : Value} (ga : GraphAt h0 vx vy va γ) :
    Ret Tryz.abEnv 97 [rawV γ vx vy va] h0 fun v h' => Gr h0 h' ∧ ∃ vx vy va, v = rawV γ vx vy va ∧ GraphAt h' vx vy va γ ∧ ∀ c, blkOf vx c ∨ blkOf vy c ∨ blkOf va c → h0.n ≤ c := by
  have S := St.init (M := NoM) ok
  have lX := hγ.lX
  have lY := hγ.lY
  have n2 := hγ.n2
  have many := hγ.many
  refine enter_ret (n := 16) (rs := [.cell 2 28]) rfl Tryz.e97 rfl rfl rfl (Nat.le_of_ble_eq_true rfl) ?_
  simp only [BS, Nat.reduceLT, rawV]
  refine step_newS (box_new (by intro x e; cases e)) S ?_; clear S; intro h b S n_b; simp only [vcells] at S
  simp only [BS, Tryz.FFt997]
  refine step_newS allocR_new S ?_; clear S; intro h b2 S n_b2
  simp only [BS]
  refine draw_step (hoist_no rfl) (q := 0) (ps := [(5, 7), (2, 7), (2, 4)]) (by kernel_rfl) ?_
  simp only [BS, cls, Nat.reduceLT, Nat.reduceEqDiff, Nat.reduceAdd, if_true, if_false, List.map_cons, List.map_nil, List.append_nil, List.nil_append, Nat.reducePow, Nat.reduceDiv, Nat.reduceMod, Nat.reduceLeDiff, Bool.and_true, Bool.and_false, Nat.zero_add, decide_true, decide_false, eq_self, Tryz.FFt997, S.ld (b := b) (o := 1) (by first | exact m0 | exact m1 | exact m2 | exact m3 | exact m4 | exact m5 | exact m6 | exact m7) rfl]
  refine dn_ret (clone64_ok S.ok (ga.X.gr S.gr) (by omega)) ?_
  have k1 := S.fr.n
  rintro v1 h ⟨g, s1, q1⟩
  have e1 := leaves_gr g ((S.row (b := b) m1).lt S.ok)
  have a1 : ∀ c, blkOf v1 c → ¬ c = b := fun c hc e => by have := q1 c hc; have := (S.row (b := b) m1).lt S.ok; omega
  have b1' : ∀ c, blkOf v1 c → ¬ c = b2 := fun c hc e => by have := q1 c hc; have := (S.row (b := b2) m0).lt S.ok; omega
  replace S := S.call g
  simp only [BS, cls, Nat.reduceLT, Nat.reduceEqDiff, Nat.reduceAdd, if_true, if_false, List.map_cons, List.map_nil, List.append_nil, List.nil_append, Nat.reducePow, Nat.reduceDiv, Nat.reduceMod, Nat.reduceLeDiff, Bool.and_true, Bool.and_false, Nat.zero_add, decide_true, decide_false, eq_self, Tryz.FFt997, S.ld (b := b) (o := 2) (by first | exact m0 | exact m1 | exact m2 | exact m3 | exact m4 | exact m5 | exact m6 | exact m7) rfl]
  refine dn_ret (clone64_ok S.ok (ga.Y.gr S.gr) (by omega)) ?_
  have k2 := S.fr.n
  rintro v2 h ⟨g, s2, q2⟩
  have e2 := leaves_gr g ((S.row (b := b) m1).lt S.ok)
  have a2 : ∀ c, blkOf v2 c → ¬ c = b := fun c hc e => by have := q2 c hc; have := (S.row (b := b) m1).lt S.ok; omega
  have b2' : ∀ c, blkOf v2 c → ¬ c = b2 := fun c hc e => by have := q2 c hc; have := (S.row (b := b2) m0).lt S.ok; omega
  replace S := S.call g
  replace s1 := s1.gr g
  simp only [BS, cls, Nat.reduceLT, Nat.reduceEqDiff, Nat.reduceAdd, if_true, if_false, List.map_cons, List.map_nil, List.append_nil, List.nil_append, Nat.reducePow, Nat.reduceDiv, Nat.reduceMod, Nat.reduceLeDiff, Bool.and_true, Bool.and_false, Nat.zero_add, decide_true, decide_false, eq_self, Tryz.FFt997, S.ld (b := b) (o := 3) (by first | exact m0 | exact m1 | exact m2 | exact m3 | exact m4 | exact m5 | exact m6 | exact m7) rfl]
  refine dn_ret (cloneArc_ok S.ok (ga.A.gr S.gr) (by omega)) ?_
  have k3 := S.fr.n
  rintro v3 h ⟨g, s3, q3⟩
  have e3 := leaves_gr g ((S.row (b := b) m1).lt S.ok)
  have a3 : ∀ c, blkOf v3 c → ¬ c = b := fun c hc e => by have := q3 c hc; have := (S.row (b := b) m1).lt S.ok; omega
  have b3' : ∀ c, blkOf v3 c → ¬ c = b2 := fun c hc e => by have := q3 c hc; have := (S.row (b := b2) m0).lt S.ok; omega
  replace S := S.call g
  replace s1 := s1.gr g
  replace s2 := s2.gr g
  have z : ∀ c, blkOf v1 c ∨ blkOf v2 c ∨ blkOf v3 c → h0.n ≤ c := fun c hc => by
    rcases hc with h | h | h
    · exact Nat.le_trans k1 (q1 c h)
    · exact Nat.le_trans k2 (q2 c h)
    · exact Nat.le_trans k3 (q3 c h)
  have f1 := s1.fl
  have f2 := s2.fl
  have f3 := s3.fl
  simp only [BS, cls, Nat.reduceLT, Nat.reduceEqDiff, Nat.reduceAdd, if_true, if_false, Nat.reducePow, Nat.reduceDiv, Nat.reduceMod, Nat.reduceLeDiff, Bool.and_false, Nat.zero_add, decide_false, eq_self, Tryz.FFt997]
  first | refine dn_u (store_fl S (i := 0) rfl (by simp only [Tryz.FFt997]) (by first | exact fl_int | exact fl_slice | exact fl_ptr | exact fl_bool | exact fl_map | exact fl_func | exact fl_nili | exact fl_iface | exact fl_nilf | exact fl_str | assumption) (Nat.lt_of_succ_le (Nat.le_of_ble_eq_true rfl)) Nat.one_ne_zero) ?_ | refine dn_u (store_fl S (i := 1) rfl (by simp only [Tryz.FFt997]) (by first | exact fl_int | exact fl_slice | exact fl_ptr | exact fl_bool | exact fl_map | exact fl_func | exact fl_nili | exact fl_iface | exact fl_nilf | exact fl_str | assumption) (Nat.lt_of_succ_le (Nat.le_of_ble_eq_true rfl)) Nat.one_ne_zero) ?_ | refine dn_u (store_fl S (i := 2) rfl (by simp only [Tryz.FFt997]) (by first | exact fl_int | exact fl_slice | exact fl_ptr | exact fl_bool | exact fl_map | exact fl_func | exact fl_nili | exact fl_iface | exact fl_nilf | exact fl_str | assumption) (Nat.lt_of_succ_le (Nat.le_of_ble_eq_true rfl)) Nat.one_ne_zero) ?_ | refine dn_u (store_fl S (i := 3) rfl (by simp only [Tryz.FFt997]) (by first | exact fl_int | exact fl_slice | exact fl_ptr | exact fl_bool | exact fl_map | exact fl_func | exact fl_nili | exact fl_iface | exact fl_nilf | exact fl_str | assumption) (Nat.lt_of_succ_le (Nat.le_of_ble_eq_true rfl)) Nat.one_ne_zero) ?_ | refine dn_u (store_fl S (i := 4) rfl (by simp only [Tryz.FFt997]) (by first | exact fl_int | exact fl_slice | exact fl_ptr | exact fl_bool | exact fl_map | exact fl_func | exact fl_nili | exact fl_iface | exact fl_nilf | exact fl_str | assumption) (Nat.lt_of_succ_le (Nat.le_of_ble_eq_true rfl)) Nat.one_ne_zero) ?_ | refine dn_u (store_fl S (i := 5) rfl (by simp only [Tryz.FFt997]) (by first | exact fl_int | exact fl_slice | exact fl_ptr | exact fl_bool | exact fl_map | exact fl_func | exact fl_nili | exact fl_iface | exact fl_nilf | exact fl_str | assumption) (Nat.lt_of_succ_le (Nat.le_of_ble_eq_true rfl)) Nat.one_ne_zero) ?_ | refine dn_u (store_fl S (i := 6) rfl (by simp only [Tryz.FFt997]) (by first | exact fl_int | exact fl_slice | exact fl_ptr | exact fl_bool | exact fl_map | exact fl_func | exact fl_nili | exact fl_iface | exact fl_nilf | exact fl_str | assumption) (Nat.lt_of_succ_le (Nat.le_of_ble_eq_true rfl)) Nat.one_ne_zero) ?_ | refine dn_u (store_fl S (i := 7) rfl (by simp only [Tryz.FFt997]) (by first | exact fl_int | exact fl_slice | exact fl_ptr | exact fl_bool | exact fl_map | exact fl_func | exact fl_nili | exact fl_iface | exact fl_nilf | exact fl_str | assumption) (Nat.lt_of_succ_le (Nat.le_of_ble_eq_true rfl)) Nat.one_ne_zero) ?_
  clear S; rintro h ⟨S, mo⟩; replace s1 := s1.mo mo a1; replace s2 := s2.mo mo a2; replace s3 := s3.mo mo a3; clear mo; simp only [List.set_cons_zero, List.set_cons_succ, vcells, lay, List.take, List.drop, List.nil_append, List.cons_append, List.append_nil, List.length_cons, List.length_nil, Nat.reduceAdd, Nat.add_zero] at S
  simp only [BS, cls, Nat.reduceLT, Nat.reduceEqDiff, Nat.reduceAdd, if_true, if_false, Nat.reducePow, Nat.reduceDiv, Nat.reduceMod, Nat.reduceLeDiff, Bool.and_false, Nat.zero_add, decide_false, eq_self, Tryz.FFt997]
  first | refine dn_u (store_fl S (i := 0) rfl (by simp only [Tryz.FFt997]) (by first | exact fl_int | exact fl_slice | exact fl_ptr | exact fl_bool | exact fl_map | exact fl_func | exact fl_nili | exact fl_iface | exact fl_nilf | exact fl_str | assumption) (Nat.lt_of_succ_le (Nat.le_of_ble_eq_true rfl)) Nat.one_ne_zero) ?_ | refine dn_u (store_fl S (i := 1) rfl (by simp only [Tryz.FFt997]) (by first | exact fl_int | exact fl_slice | exact fl_ptr | exact fl_bool | exact fl_map | exact fl_func | exact fl_nili | exact fl_iface | exact fl_nilf | exact fl_str | assumption) (Nat.lt_of_succ_le (Nat.le_of_ble_eq_true rfl)) Nat.one_ne_zero) ?_ | refine dn_u (store_fl S (i := 2) rfl (by simp only [Tryz.FFt997]) (by first | exact fl_int | exact fl_slice | exact fl_ptr | exact fl_bool | exact fl_map | exact fl_func | exact fl_nili | exact fl_iface | exact fl_nilf | exact fl_str | assumption) (Nat.lt_of_succ_le (Nat.le_of_ble_eq_true rfl)) Nat.one_ne_zero) ?_ | refine dn_u (store_fl S (i := 3) rfl (by simp only [Tryz.FFt997]) (by first | exact fl_int | exact fl_slice | exact fl_ptr | exact fl_bool | exact fl_map | exact fl_func | exact fl_nili | exact fl_iface | exact fl_nilf | exact fl_str | assumption) (Nat.lt_of_succ_le (Nat.le_of_ble_eq_true rfl)) Nat.one_ne_zero) ?_ | refine dn_u (store_fl S (i := 4) rfl (by simp only [Tryz.FFt997]) (by first | exact fl_int | exact fl_slice | exact fl_ptr | exact fl_bool | exact fl_map | exact fl_func | exact fl_nili | exact fl_iface | exact fl_nilf | exact fl_str | assumption) (Nat.lt_of_succ_le (Nat.le_of_ble_eq_true rfl)) Nat.one_ne_zero) ?_ | refine dn_u (store_fl S (i := 5) rfl (by simp only [Tryz.FFt997]) (by first | exact fl_int | exact fl_slice | exact fl_ptr | exact fl_bool | exact fl_map | exact fl_func | exact fl_nili | exact fl_iface | exact fl_nilf | exact fl_str | assumption) (Nat.lt_of_succ_le (Nat.le_of_ble_eq_true rfl)) Nat.one_ne_zero) ?_ | refine dn_u (store_fl S (i := 6) rfl (by simp only [Tryz.FFt997]) (by first | exact fl_int | exact fl_slice | exact fl_ptr | exact fl_bool | exact fl_map | exact fl_func | exact fl_nili | exact fl_iface | exact fl_nilf | exact fl_str | assumption) (Nat.lt_of_succ_le (Nat.le_of_ble_eq_true rfl)) Nat.one_ne_zero) ?_ | refine dn_u (store_fl S (i := 7) rfl (by simp only [Tryz.FFt997]) (by first | exact fl_int | exact fl_slice | exact fl_ptr | exact fl_bool | exact fl_map | exact fl_func | exact fl_nili | exact fl_iface | exact fl_nilf | exact fl_str | assumption) (Nat.lt_of_succ_le (Nat.le_of_ble_eq_true rfl)) Nat.one_ne_zero) ?_
  clear S; rintro h ⟨S, mo⟩; replace s1 := s1.mo mo a1; replace s2 := s2.mo mo a2; replace s3 := s3.mo mo a3; clear mo; simp only [List.set_cons_zero, List.set_cons_succ, vcells, lay, List.take, List.drop, List.nil_append, List.cons_append, List.append_nil, List.length_cons, List.length_nil, Nat.reduceAdd, Nat.add_zero] at S
  simp only [BS, cls, Nat.reduceLT, Nat.reduceEqDiff, Nat.reduceAdd, if_true, if_false, Nat.reducePow, Nat.reduceDiv, Nat.reduceMod, Nat.reduceLeDiff, Bool.and_false, Nat.zero_add, decide_false, eq_self, Tryz.FFt997]
  first | refine dn_u (store_fl S (i := 0) rfl (by simp only [Tryz.FFt997]) (by first | exact fl_int | exact fl_slice | exact fl_ptr | exact fl_bool | exact fl_map | exact fl_func | exact fl_nili | exact fl_iface | exact fl_nilf | exact fl_str | assumption) (Nat.lt_of_succ_le (Nat.le_of_ble_eq_true rfl)) Nat.one_ne_zero) ?_ | refine dn_u (store_fl S (i := 1) rfl (by simp only [Tryz.FFt997]) (by first | exact fl_int | exact fl_slice | exact fl_ptr | exact fl_bool | exact fl_map | exact fl_func | exact fl_nili | exact fl_iface | exact fl_nilf | exact fl_str | assumption) (Nat.lt_of_succ_le (Nat.le_of_ble_eq_true rfl)) Nat.one_ne_zero) ?_ | refine dn_u (store_fl S (i := 2) rfl (by simp only [Tryz.FFt997]) (by first | exact fl_int | exact fl_slice | exact fl_ptr | exact fl_bool | exact fl_map | exact fl_func | exact fl_nili | exact fl_iface | exact fl_nilf | exact fl_str | assumption) (Nat.lt_of_succ_le (Nat.le_of_ble_eq_true rfl)) Nat.one_ne_zero) ?_ | refine dn_u (store_fl S (i := 3) rfl (by simp only [Tryz.FFt997]) (by first | exact fl_int | exact fl_slice | exact fl_ptr | exact fl_bool | exact fl_map | exact fl_func | exact fl_nili | exact fl_iface | exact fl_nilf | exact fl_str | assumption) (Nat.lt_of_succ_le (Nat.le_of_ble_eq_true rfl)) Nat.one_ne_zero) ?_ | refine dn_u (store_fl S (i := 4) rfl (by simp only [Tryz.FFt997]) (by first | exact fl_int | exact fl_slice | exact fl_ptr | exact fl_bool | exact fl_map | exact fl_func | exact fl_nili | exact fl_iface | exact fl_nilf | exact fl_str | assumption) (Nat.lt_of_succ_le (Nat.le_of_ble_eq_true rfl)) Nat.one_ne_zero) ?_ | refine dn_u (store_fl S (i := 5) rfl (by simp only [Tryz.FFt997]) (by first | exact fl_int | exact fl_slice | exact fl_ptr | exact fl_bool | exact fl_map | exact fl_func | exact fl_nili | exact fl_iface | exact fl_nilf | exact fl_str | assumption) (Nat.lt_of_succ_le (Nat.le_of_ble_eq_true rfl)) Nat.one_ne_zero) ?_ | refine dn_u (store_fl S (i := 6) rfl (by simp only [Tryz.FFt997]) (by first | exact fl_int | exact fl_slice | exact fl_ptr | exact fl_bool | exact fl_map | exact fl_func | exact fl_nili | exact fl_iface | exact fl_nilf | exact fl_str | assumption) (Nat.lt_of_succ_le (Nat.le_of_ble_eq_true rfl)) Nat.one_ne_zero) ?_ | refine dn_u (store_fl S (i := 7) rfl (by simp only [Tryz.FFt997]) (by first | exact fl_int | exact fl_slice | exact fl_ptr | exact fl_bool | exact fl_map | exact fl_func | exact fl_nili | exact fl_iface | exact fl_nilf | exact fl_str | assumption) (Nat.lt_of_succ_le (Nat.le_of_ble_eq_true rfl)) Nat.one_ne_zero) ?_
  clear S; rintro h ⟨S, mo⟩; replace s1 := s1.mo mo a1; replace s2 := s2.mo mo a2; replace s3 := s3.mo mo a3; clear mo; simp only [List.set_cons_zero, List.set_cons_succ, vcells, lay, List.take, List.drop, List.nil_append, List.cons_append, List.append_nil, List.length_cons, List.length_nil, Nat.reduceAdd, Nat.add_zero] at S
  simp only [BS, Nat.reduceLT, Nat.reduceEqDiff, Nat.reduceAdd, if_true, if_false, eq_self, Tryz.FFt997]
  refine ⟨by simp only [pairs_cons, pairs_nil, entry_noted, entry_hit, entry_miss, ne_eq, not_false_eq_true, note_load, note_run, note_alloc, noted_some, ll_tmp, ll_put, setR_at, Nat.reduceLT, Nat.reduceEqDiff, reduceIte, Bool.and_true, argR_zero, ptr_eq, pair_br e1, pair_br e2, pair_br e3, pair_rb e1, pair_rb e2, pair_rb e3], ?_⟩
  simp only [BS, Nat.reduceLT, Nat.reduceEqDiff, if_true, if_false, eq_self, S.lds (b := b) (o := 0) (n := 4) (by first | exact m0 | exact m1 | exact m2 | exact m3 | exact m4 | exact m5 | exact m6 | exact m7) (Nat.le_of_ble_eq_true rfl)]
  refine step_u (S.store (i := 0) rfl Tryz.s28 (by intro x e; cases e) rfl (by simp only [vcells, List.take, List.drop, List.all_cons, List.all_nil, f1.2.1, f2.2.1, f3.2.1, Bool.and_true]; rfl) (Nat.le_of_ble_eq_true rfl) Nat.one_ne_zero) ?_
  clear S
  rintro h' ⟨S, g2⟩
  simp only [List.set_cons_zero, List.set_cons_succ, vcells, lay, List.take, List.drop, List.nil_append, List.cons_append, List.append_nil, List.length_cons, List.length_nil, Nat.reduceAdd, Nat.add_zero] at S
  simp only [BS, tupleOf]
  refine ⟨_, rr_cell (by decide) (by simp only [setR_at, ptr_eq, Nat.reduceEqDiff, reduceIte]; exact loadV_aggr Tryz.a28 Tryz.s28 (S.lds (b := b2) (o := 0) (n := 4) m0 (Nat.le_of_ble_eq_true rfl))), ?_⟩
  exact ⟨S.gr, v1, v2, v3, rfl, ⟨s1.mo g2 b1', s2.mo g2 b2', s3.mo g2 b3'⟩, z⟩
end Go.Ab

end
section
/- Arcs by their ends: how many, and where they lie. -/
namespace Go.Ab
section
variable (A : List Arc) (f : Arc → Nat)
def outs (j v : Nat) : List Nat := (List.range j).filter fun i => decide (f (A.getD i default) = v)
def start : Nat → Nat
  | 0 => 0
  | v + 1 => start v + (outs A f A.length v).length
theorem outs_succ (j v : Nat) : outs A f (j + 1) v = outs A f j v ++ (if f (A.getD j default) = v then [j] else []) := by
  unfold outs
  rw [List.range_succ, List.filter_append]
  congr 1
  by_cases h : f (A.getD j default) = v
  · simp only [List.filter_cons, List.filter_nil, h, decide_true, if_true]
  · simp only [List.filter_cons, List.filter_nil, h, decide_false, if_false, Bool.false_eq_true]
theorem outs_pre {j k : Nat} (h : j ≤ k) (v : Nat) : ∃ l, outs A f k v = outs A f j v ++ l := by
  induction k with
  | zero => have : j = 0 := by omega
            subst this; exact ⟨[], by simp⟩
  | succ k ih =>
    by_cases hk : j = k + 1
    · subst hk; exact ⟨[], by simp⟩
    · obtain ⟨l, hl⟩ := ih (by omega)
      exact ⟨l ++ _, by rw [outs_succ, hl, List.append_assoc]⟩
theorem outs_le {j k : Nat} (h : j ≤ k) (v : Nat) : (outs A f j v).length ≤ (outs A f k v).length := by
  obtain ⟨l, hl⟩ := outs_pre A f h v
  rw [hl, List.length_append]; omega
theorem start_eq (v : Nat) : start A f v = ((List.range A.length).filter fun i => decide (f (A.getD i default) < v)).length := by
  have key : ∀ (l : List Nat) (v : Nat), (l.filter fun i => decide (f (A.getD i default) < v + 1)).length = (l.filter fun i => decide (f (A.getD i default) < v)).length + (l.filter fun i => decide (f (A.getD i default) = v)).length := by
    intro l v
    induction l with
    | nil => rfl
    | cons x l ih =>
      simp only [List.filter_cons]
      by_cases h1 : f (A.getD x default) < v
      · have h2 : f (A.getD x default) < v + 1 := by omega
        have h3 : ¬ f (A.getD x default) = v := by omega
        rw [if_pos (decide_eq_true h2), if_pos (decide_eq_true h1), if_neg (by rw [decide_eq_true_eq]; exact h3), List.length_cons, List.length_cons, ih]; omega
      · by_cases h3 : f (A.getD x default) = v
        · have h2 : f (A.getD x default) < v + 1 := by omega
          rw [if_pos (decide_eq_true h2), if_neg (by rw [decide_eq_true_eq]; exact h1), if_pos (decide_eq_true h3), List.length_cons, List.length_cons, ih]; omega
        · have h2 : ¬ f (A.getD x default) < v + 1 := by omega
          rw [if_neg (by rw [decide_eq_true_eq]; exact h2), if_neg (by rw [decide_eq_true_eq]; exact h1), if_neg (by rw [decide_eq_true_eq]; exact h3), ih]
  induction v with
  | zero => rw [start]; symm; rw [List.length_eq_zero_iff, List.filter_eq_nil_iff]; intro a _; simp only [Nat.not_lt_zero, decide_false, Bool.false_eq_true, not_false_eq_true]
  | succ v ih => rw [start, ih, key]; rfl
theorem start_top (v : Nat) : start A f v + (outs A f A.length v).length ≤ A.length := by
  have := start_eq A f (v + 1)
  rw [start] at this
  rw [this]
  exact Nat.le_trans (List.length_filter_le _ _) (by simp)
theorem start_mono {u v : Nat} (h : u < v) : start A f u + (outs A f A.length u).length ≤ start A f v := by
  induction v with
  | zero => omega
  | succ v ih =>
    rw [start]
    by_cases hu : u = v
    · subst hu; exact Nat.le_refl _
    · have := ih (by omega); omega
/-- Places of two rows are two. -/
theorem start_apart {u v r s : Nat} (hr : r < (outs A f A.length u).length) (hs : s < (outs A f A.length v).length) (h : start A f u + r = start A f v + s) : u = v ∧ r = s := by
  rcases Nat.lt_trichotomy u v with h1 | h1 | h1
  · have := start_mono A f h1; omega
  · subst h1; exact ⟨rfl, by omega⟩
  · have := start_mono A f h1; omega
end
/-- Rows of numbers in memory. -/
def encN (x : Nat) : List Value := [.int .i64 x]
theorem encN_len (x : Nat) : (encN x).length = 1 := rfl
/-- m: where its blocks begin. -/
def RowsAt (h : Hp) (m : Nat) (v : Value) (N : Nat) (R : Nat → List Nat) : Prop :=
  ∃ bv vs, v = .slice (some ⟨bv, 0, none⟩) N N ∧ m ≤ bv ∧ Row h bv vs 1 ∧ vs.length = N ∧ ∀ i, i < N → ∃ w, vs[i]? = some w ∧ SlAt h 1 encN w (R i) ∧ ∀ c, blkOf w c → m ≤ c
theorem RowsAt.mo {M : Nat → Prop} {h h' : Hp} {v : Value} {m N : Nat} {R : Nat → List Nat} (r : RowsAt h m v N R) (g : Mo M h h') (hm : ∀ b, M b → b < m) : RowsAt h' m v N R := by
  obtain ⟨bv, vs, h1, h0, h2, h3, h4⟩ := r
  refine ⟨bv, vs, h1, by omega, g.has (o := .row vs 1) h2 (fun h => by have := hm _ h; omega), h3, fun i hi => ?_⟩
  obtain ⟨w, a, b, c⟩ := h4 i hi
  exact ⟨w, a, b.mo g fun x hx hM => by have := hm _ hM; have := c x hx; omega, fun x hx => by have := c x hx; omega⟩
theorem RowsAt.gr {h h' : Hp} {v : Value} {m N : Nat} {R : Nat → List Nat} (g : Gr h h') (r : RowsAt h m v N R) : RowsAt h' m v N R :=
  r.mo (M := NoM) g.fr (fun _ h => h.elim)
theorem RowsAt.low {h : Hp} {v : Value} {m m' N : Nat} {R : Nat → List Nat} (r : RowsAt h m v N R) (hm : m' ≤ m) : RowsAt h m' v N R := by
  obtain ⟨bv, vs, h1, h0, h2, h3, h4⟩ := r
  exact ⟨bv, vs, h1, by omega, h2, h3, fun i hi => by
    obtain ⟨w, a, b, c⟩ := h4 i hi
    exact ⟨w, a, b, fun x hx => by have := c x hx; omega⟩⟩
/-- A net lies there; m: where its blocks begin. -/
structure NetAt (h : Hp) (m : Nat) (p : Value) (γ : Gra) : Prop where
  ex : ∃ b vx vy va vo vi, p = ptrTo b ∧ Row h b [.int .i64 γ.nodes, vx, vy, va, vo, vi] 1 ∧ GraphAt h vx vy va γ ∧ RowsAt h m vo γ.nodes (outs γ.arcs Arc.s γ.arcs.length) ∧ RowsAt h m vi γ.nodes (outs γ.arcs Arc.t γ.arcs.length) ∧ m ≤ b ∧ ∀ c, blkOf vx c ∨ blkOf vy c ∨ blkOf va c → m ≤ c
theorem GraphAt.mo {M : Nat → Prop} {h h' : Hp} {vx vy va : Value} {γ : Gra} (a : GraphAt h vx vy va γ) (g : Mo M h h') (hm : ∀ c, blkOf vx c ∨ blkOf vy c ∨ blkOf va c → ¬ M c) : GraphAt h' vx vy va γ :=
  ⟨a.X.mo g fun c h => hm c (.inl h), a.Y.mo g fun c h => hm c (.inr (.inl h)), a.A.mo g fun c h => hm c (.inr (.inr h))⟩
theorem NetAt.mo {M : Nat → Prop} {h h' : Hp} {m : Nat} {p : Value} {γ : Gra} (n : NetAt h m p γ) (g : Mo M h h') (hm : ∀ b, M b → b < m) : NetAt h' m p γ := by
  obtain ⟨b, vx, vy, va, vo, vi, h1, h2, h3, h4, h5, h6, h7⟩ := n.ex
  exact ⟨b, vx, vy, va, vo, vi, h1, g.has (o := .row _ 1) h2 (fun h => by have := hm _ h; omega), h3.mo g (fun c hc hM => by have := hm _ hM; have := h7 c hc; omega), h4.mo g hm, h5.mo g hm, h6, h7⟩
theorem NetAt.gr {h h' : Hp} {m : Nat} {p : Value} {γ : Gra} (n : NetAt h m p γ) (g : Gr h h') : NetAt h' m p γ := n.mo (M := NoM) g.fr (fun _ h => h.elim)
theorem mapr_set {α : Type} {N k : Nat} {F F' : Nat → α} (hk : ∀ i, i < N → i ≠ k → F' i = F i) : ((List.range N).map F).set k (F' k) = (List.range N).map F' := by
  refine List.ext_getElem? fun i => ?_
  rw [List.getElem?_set]
  by_cases hi : i < N
  · by_cases e : k = i
    · subst e; simp [hi]
    · rw [if_neg e]; simp [hi, hk i hi (Ne.symm e)]
  · by_cases e : k = i
    · subst e; simp [hi]
    · rw [if_neg e]; simp [hi]
theorem mapr_at {α : Type} {N k : Nat} {F : Nat → α} (hk : k < N) : ((List.range N).map F)[k]? = some (F k) := by simp [hk]
end Go.Ab

end
section
/- Arcs by their ends. -/
set_option maxHeartbeats 4000000

set_option linter.unusedVariables false
namespace Go.Ab
open Go.Proofs
set_option maxRecDepth 10000
set_option linter.defProp false
def Tryz.FFt10136 := And.intro Tryz.a1 <| And.intro Tryz.s1 <| And.intro Tryz.z1 <| And.intro Tryz.n1 <| And.intro Tryz.u2 <| And.intro Tryz.a2 <| And.intro Tryz.s2 <| And.intro Tryz.z2 <| And.intro Tryz.i2 <| And.intro Tryz.u3 <| And.intro Tryz.a3 <| And.intro Tryz.s3 <| And.intro Tryz.z3 <| And.intro Tryz.i3 <| And.intro Tryz.a60 <| And.intro Tryz.s60 <| And.intro Tryz.z60 <| And.intro Tryz.i60 <| And.intro Tryz.n60 <| And.intro Tryz.p60 <| And.intro Tryz.ff60 <| Tryz.d60
def Tryz.FFt10137 := And.intro Tryz.a1 <| And.intro Tryz.s1 <| And.intro Tryz.z1 <| And.intro Tryz.n1 <| And.intro Tryz.u2 <| And.intro Tryz.a2 <| And.intro Tryz.s2 <| And.intro Tryz.z2 <| And.intro Tryz.i2 <| And.intro Tryz.u3 <| And.intro Tryz.a3 <| And.intro Tryz.s3 <| And.intro Tryz.z3 <| And.intro Tryz.i3 <| And.intro Tryz.a60 <| And.intro Tryz.s60 <| And.intro Tryz.z60 <| And.intro Tryz.i60 <| And.intro Tryz.n60 <| And.intro Tryz.p60 <| And.intro Tryz.ff60 <| Tryz.d60
def Tryz.FFt10135 := And.intro Tryz.a1 <| And.intro Tryz.s1 <| And.intro Tryz.z1 <| And.intro Tryz.n1 <| And.intro Tryz.u2 <| And.intro Tryz.a2 <| And.intro Tryz.s2 <| And.intro Tryz.z2 <| And.intro Tryz.i2 <| And.intro Tryz.u3 <| And.intro Tryz.a3 <| And.intro Tryz.s3 <| And.intro Tryz.z3 <| And.intro Tryz.i3 <| And.intro Tryz.u4 <| And.intro Tryz.a4 <| And.intro Tryz.s4 <| And.intro Tryz.z4 <| And.intro Tryz.n4 <| And.intro Tryz.u5 <| And.intro Tryz.a5 <| And.intro Tryz.s5 <| And.intro Tryz.z5 <| And.intro Tryz.i5 <| And.intro Tryz.u6 <| And.intro Tryz.a6 <| And.intro Tryz.s6 <| And.intro Tryz.z6 <| And.intro Tryz.i6 <| And.intro Tryz.a7 <| And.intro Tryz.s7 <| And.intro Tryz.z7 <| And.intro Tryz.i7 <| And.intro Tryz.n7 <| And.intro Tryz.p7 <| And.intro Tryz.ff7 <| And.intro Tryz.d7 <| And.intro Tryz.a8 <| And.intro Tryz.s8 <| And.intro Tryz.z8 <| And.intro Tryz.i8 <| And.intro Tryz.n8 <| And.intro Tryz.p8 <| And.intro Tryz.ff8 <| And.intro Tryz.d8 <| And.intro Tryz.u9 <| And.intro Tryz.a9 <| And.intro Tryz.s9 <| And.intro Tryz.z9 <| And.intro Tryz.n9 <| And.intro Tryz.u10 <| And.intro Tryz.a10 <| And.intro Tryz.s10 <| And.intro Tryz.z10 <| And.intro Tryz.n10 <| And.intro Tryz.u11 <| And.intro Tryz.a11 <| And.intro Tryz.s11 <| And.intro Tryz.z11 <| And.intro Tryz.n11 <| And.intro Tryz.u12 <| And.intro Tryz.a12 <| And.intro Tryz.s12 <| And.intro Tryz.z12 <| And.intro Tryz.i12 <| And.intro Tryz.a13 <| And.intro Tryz.s13 <| And.intro Tryz.z13 <| And.intro Tryz.i13 <| And.intro Tryz.n13 <| And.intro Tryz.p13 <| And.intro Tryz.ff13 <| And.intro Tryz.d13 <| And.intro Tryz.a14 <| And.intro Tryz.s14 <| And.intro Tryz.z14 <| And.intro Tryz.i14 <| And.intro Tryz.n14 <| And.intro Tryz.p14 <| And.intro Tryz.ff14 <| And.intro Tryz.d14 <| And.intro Tryz.u15 <| And.intro Tryz.a15 <| And.intro Tryz.s15 <| And.intro Tryz.z15 <| And.intro Tryz.q15 <| And.intro Tryz.i15 <| And.intro Tryz.n15 <| And.intro Tryz.u16 <| And.intro Tryz.a16 <| And.intro Tryz.s16 <| And.intro Tryz.z16 <| And.intro Tryz.q16 <| And.intro Tryz.i16 <| And.intro Tryz.n16 <| And.intro Tryz.u17 <| And.intro Tryz.a17 <| And.intro Tryz.s17 <| And.intro Tryz.z17 <| And.intro Tryz.q17 <| And.intro Tryz.i17 <| And.intro Tryz.n17 <| And.intro Tryz.a18 <| And.intro Tryz.s18 <| And.intro Tryz.z18 <| And.intro Tryz.i18 <| And.intro Tryz.n18 <| And.intro Tryz.p18 <| And.intro Tryz.ff18 <| And.intro Tryz.d18 <| And.intro Tryz.a19 <| And.intro Tryz.s19 <| And.intro Tryz.z19 <| And.intro Tryz.i19 <| And.intro Tryz.n19 <| And.intro Tryz.p19 <| And.intro Tryz.ff19 <| And.intro Tryz.d19 <| And.intro Tryz.a20 <| And.intro Tryz.s20 <| And.intro Tryz.z20 <| And.intro Tryz.q20 <| And.intro Tryz.n20 <| And.intro Tryz.u25 <| And.intro Tryz.a25 <| And.intro Tryz.s25 <| And.intro Tryz.z25 <| And.intro Tryz.q25 <| And.intro Tryz.n25 <| And.intro Tryz.u26 <| And.intro Tryz.a26 <| And.intro Tryz.s26 <| And.intro Tryz.z26 <| And.intro Tryz.q26 <| And.intro Tryz.n26 <| And.intro Tryz.a28 <| And.intro Tryz.s28 <| And.intro Tryz.z28 <| And.intro Tryz.i28 <| And.intro Tryz.n28 <| And.intro Tryz.p28 <| And.intro Tryz.ff28 <| And.intro Tryz.d28 <| And.intro Tryz.u35 <| And.intro Tryz.a35 <| And.intro Tryz.s35 <| And.intro Tryz.z35 <| And.intro Tryz.q35 <| And.intro Tryz.n35 <| And.intro Tryz.a60 <| And.intro Tryz.s60 <| And.intro Tryz.z60 <| And.intro Tryz.i60 <| And.intro Tryz.n60 <| And.intro Tryz.p60 <| And.intro Tryz.ff60 <| And.intro Tryz.d60 <| And.intro Tryz.a124 <| And.intro Tryz.s124 <| And.intro Tryz.z124 <| And.intro Tryz.n124 <| And.intro Tryz.u150 <| And.intro Tryz.a150 <| And.intro Tryz.s150 <| And.intro Tryz.z150 <| And.intro Tryz.q150 <| And.intro Tryz.n150 <| And.intro Tryz.u159 <| And.intro Tryz.a159 <| And.intro Tryz.s159 <| And.intro Tryz.z159 <| And.intro Tryz.q159 <| And.intro Tryz.i159 <| And.intro Tryz.n159 <| And.intro Tryz.u237 <| And.intro Tryz.a237 <| And.intro Tryz.s237 <| And.intro Tryz.z237 <| And.intro Tryz.i237 <| And.intro Tryz.u247 <| And.intro Tryz.a247 <| And.intro Tryz.s247 <| And.intro Tryz.z247 <| And.intro Tryz.i247 <| And.intro Tryz.a276 <| And.intro Tryz.s276 <| And.intro Tryz.z276 <| And.intro Tryz.i276 <| And.intro Tryz.n276 <| And.intro Tryz.p276 <| And.intro Tryz.ff276 <| And.intro Tryz.d276 <| And.intro Tryz.u277 <| And.intro Tryz.a277 <| And.intro Tryz.s277 <| And.intro Tryz.z277 <| And.intro Tryz.n277 <| And.intro Tryz.a279 <| And.intro Tryz.s279 <| And.intro Tryz.z279 <| And.intro Tryz.i279 <| And.intro Tryz.n279 <| And.intro Tryz.u281 <| And.intro Tryz.a281 <| And.intro Tryz.s281 <| And.intro Tryz.z281 <| And.intro Tryz.i281 <| And.intro Tryz.a282 <| And.intro Tryz.s282 <| And.intro Tryz.z282 <| And.intro Tryz.n282 <| And.intro Tryz.u283 <| And.intro Tryz.a283 <| And.intro Tryz.s283 <| And.intro Tryz.z283 <| And.intro Tryz.i283 <| And.intro Tryz.u284 <| And.intro Tryz.a284 <| And.intro Tryz.s284 <| And.intro Tryz.z284 <| And.intro Tryz.i284 <| And.intro Tryz.a286 <| And.intro Tryz.s286 <| And.intro Tryz.z286 <| And.intro Tryz.i286 <| And.intro Tryz.n286 <| And.intro Tryz.p286 <| And.intro Tryz.ff286 <| Tryz.d286
theorem slice_at {E : Env} {t e : TypeId} {b k len cap l m : Nat} {kd1 kd2 kd3 : IntKind} (hu : E.und t = some (.slice e)) (hs : E.sz e = some k) (hlm : l ≤ m) (hm : m ≤ cap) :
    sliceP E t (.slice (some ⟨b, 0, none⟩) len cap) (some (.int kd1 (l : Int))) (some (.int kd2 (l : Int))) (some (.int kd3 (m : Int))) = some (.slice (some ⟨b, if m = l then 0 else l * k, none⟩) 0 (m - l)) := by
  have nat : ∀ n : Nat, natOf (n : Int) = some n := fun n => rfl
  simp only [sliceP, hu, boundsP, boundP, nat, Nat.ble_eq_true_of_le hm, Nat.ble_eq_true_of_le hlm, Nat.ble_eq_true_of_le (Nat.le_refl l), cond_true, hs, Nat.sub_self, Option.map]
  by_cases h : m = l
  · subst h; rw [Nat.beq_refl]; simp
  · have : Nat.beq m l = false := by
      cases hb : Nat.beq m l with
      | false => rfl
      | true => exact absurd (Nat.eq_of_beq_eq_true hb) h
    rw [this, if_neg h]; simp [addrAdd]
/-- One more element, within the capacity. -/
theorem St.fill {M : Nat → Prop} {h0 h : Hp} {L : List (Nat × Ob)} {G : List GL} (S : St M h0 h L G) {E : Env} {t tx e : TypeId} {by_ i b off len cap md : Nat} {zs l : List Value} {s : Option Nat} {x v : Value} (hi : L[i]? = some (b, .row l md)) (hu : E.und t = some (.slice e)) (he : ElemIs E e by_ 1 zs)
    (hx : intTy E tx = some false) (hsrc : srcCells h 1 x = some (1, [v])) (hv : Fl v) (hc : len < cap) (ho : off + len < l.length) (hmd : md ≠ 0) {ts : List TypeId} :
    ∃ h', appendV E h (t :: tx :: ts) (.slice (some ⟨b, off, s⟩) len cap) x = some (h', .slice (some ⟨b, off, s⟩) (len + 1) cap) ∧ St M h0 h' (L.set i (b, .row (l.set (off + len) v) md)) G ∧ Mo (· = b) h h' := by
  obtain ⟨⟨i', hi', rfl, hsz⟩, hz, hl2⟩ := he
  have hr := S.row (List.mem_of_getElem? hi)
  obtain ⟨y, h1, h2⟩ := hr.store S.ok hmd (o := off + len) (vs := [v]) (by simp; omega) (by simp [hv.2.1])
  have e : lay l (off + len) [v] = l.set (off + len) v := by
    refine List.ext_getElem? fun j => ?_
    rw [lay_get (by simp; omega), List.getElem?_set]
    simp only [List.length_cons, List.length_nil]
    by_cases hj : off + len = j
    · subst hj; rw [if_pos ⟨Nat.le_refl _, by omega⟩, if_pos rfl, if_pos ho]; simp
    · rw [if_neg (by omega), if_neg hj]
  rw [e] at h2
  refine ⟨h.put b y, ?_, S.put hi h2, (Mo.refl (M := (· = b)) S.ok).put (.inr rfl) y⟩
  simp only [appendV, hx, appendS, hu, hi', hsz, hsrc]
  unfold appendC
  rw [Nat.ble_eq_true_of_le (by omega : len + 1 ≤ cap)]
  simp only [cond_true, hsz, Nat.mul_one, h1]
theorem note_runq {ρ : Operand → Value} {f : Operand} {xs : Array Operand} {ts : Array TypeId} {h h' : Hp} : noteOf ρ true (.call ⟨.value f, xs, ts⟩) h h' = none := rfl
theorem entry_nil {i : Nat} : entryOf i [] = none := rfl
theorem pair_n {x : Option Tch} : pairOk none x = true := rfl
/-- What tells an arc's end. -/
def KeyF (E : Env) (g : FuncId) (f : Arc → Nat) : Prop := ∀ (h : Hp) (a : Arc), h.t.Sized h.n → Pure E g [.agg ⟨encA a⟩] h (.int .i64 (f a))
theorem of2_key : KeyF Tryz.abEnv 136 Arc.s := by
  intro h0 a ok
  have S := St.init (M := NoM) ok
  refine enter_ret (n := 5) (rs := [.tmp 2]) rfl Tryz.e136 rfl rfl rfl (Nat.le_of_ble_eq_true rfl) ?_
  simp only [BS, Nat.reduceLT, encA]
  refine step_newS (box_new (by intro x e; cases e)) S ?_; clear S; intro h b S n_b; simp only [vcells] at S
  simp only [BS, tupleOf, Nat.add_zero, Nat.reduceLT, Nat.reduceEqDiff, if_true, if_false, true_and, eq_self, Tryz.FFt10136, S.ld (b := b) (o := 0) (by first | exact m0 | exact m1 | exact m2 | exact m3 | exact m4 | exact m5 | exact m6 | exact m7) rfl]
  exact S.gr
theorem of3_key : KeyF Tryz.abEnv 137 Arc.t := by
  intro h0 a ok
  have S := St.init (M := NoM) ok
  refine enter_ret (n := 5) (rs := [.tmp 2]) rfl Tryz.e137 rfl rfl rfl (Nat.le_of_ble_eq_true rfl) ?_
  simp only [BS, Nat.reduceLT, encA]
  refine step_newS (box_new (by intro x e; cases e)) S ?_; clear S; intro h b S n_b; simp only [vcells] at S
  simp only [BS, tupleOf, Nat.reduceLT, Nat.reduceEqDiff, if_true, if_false, Nat.zero_add, true_and, eq_self, Tryz.FFt10137, S.ld (b := b) (o := 1) (by first | exact m0 | exact m1 | exact m2 | exact m3 | exact m4 | exact m5 | exact m6 | exact m7) rfl]
  exact S.gr
theorem outs_len (A : List Arc) (f : Arc → Nat) (j v : Nat) : (outs A f j v).length ≤ j := by
  unfold outs
  exact Nat.le_trans (List.length_filter_le _ _) (by simp)
theorem rep_map (z : Value) (N : Nat) : repL [z] ((N : Int)).toNat = (List.range N).map fun _ => z := by
  rw [Int.toNat_natCast]
  have : ∀ n, repL [z] n = List.replicate n z := by
    intro n
    induction n with
    | zero => rfl
    | succ n ih => simp [repL, ih, List.replicate_succ]
  rw [this, List.map_const', List.length_range]
def cntV (A : List Arc) (f : Arc → Nat) (i v : Nat) : Value := .int .i64 ((outs A f i v).length : Nat)
def rowV (A : List Arc) (f : Arc → Nat) (b v n : Nat) : Value := .slice (some ⟨b, if (outs A f A.length v).length = 0 then 0 else start A f v, none⟩) n (outs A f A.length v).length
theorem cnt_set {A : List Arc} {f : Arc → Nat} {N i : Nat} (hi : i < A.length) : ((List.range N).map (cntV A f i)).set (f A[i]) (.int .i64 (((outs A f i (f A[i])).length + 1 : Nat) : Int)) = (List.range N).map (cntV A f (i + 1)) := by
  have hd : A.getD i default = A[i] := by simp [List.getD_eq_getElem?_getD, hi]
  have e : (.int .i64 (((outs A f i (f A[i])).length + 1 : Nat) : Int) : Value) = cntV A f (i + 1) (f A[i]) := by
    unfold cntV; rw [outs_succ, hd, if_pos rfl, List.length_append]; rfl
  rw [e]
  refine mapr_set fun v hv hne => ?_
  unfold cntV
  rw [outs_succ, hd, if_neg (fun e => hne e.symm), List.append_nil]
/-- What stands in the rows' common block behind i arcs. -/
def FillAt (A : List Arc) (f : Arc → Nat) (N i : Nat) (cs : List Value) : Prop :=
  cs.length = A.length ∧ ∀ v r x, v < N → (outs A f i v)[r]? = some x → cs[start A f v + r]? = some (.int .i64 (x : Nat))
theorem fill_zero {A : List Arc} {f : Arc → Nat} {N : Nat} : FillAt A f N 0 ((List.range A.length).map fun _ => .int .i64 0) :=
  ⟨by simp, fun v r x _ h => by simp [outs] at h⟩
theorem fill_step {A : List Arc} {f : Arc → Nat} {N i : Nat} {cs : List Value} (h : FillAt A f N i cs) (hi : i < A.length) : FillAt A f N (i + 1) (cs.set (start A f (f A[i]) + (outs A f i (f A[i])).length) (.int .i64 (i : Nat))) := by
  have hd : A.getD i default = A[i] := by simp [List.getD_eq_getElem?_getD, hi]
  have hl : (outs A f (i + 1) (f A[i])).length ≤ (outs A f A.length (f A[i])).length := outs_le A f (by omega) _
  rw [outs_succ, hd, if_pos rfl, List.length_append] at hl
  have hlt : (outs A f i (f A[i])).length < (outs A f A.length (f A[i])).length := by simp at hl; omega
  have top := start_top A f (f A[i])
  refine ⟨by rw [List.length_set]; exact h.1, fun v r x hv hx => ?_⟩
  have hr : r < (outs A f (i + 1) v).length := (List.getElem?_eq_some_iff.1 hx).1
  have hr2 : r < (outs A f A.length v).length := Nat.lt_of_lt_of_le hr (outs_le A f (by omega) v)
  rw [List.getElem?_set]
  by_cases e : start A f (f A[i]) + (outs A f i (f A[i])).length = start A f v + r
  · obtain ⟨e1, e2⟩ := start_apart A f hlt hr2 e
    subst e1
    rw [if_pos e, if_pos (by rw [h.1]; omega)]
    rw [outs_succ, hd, if_pos rfl, List.getElem?_append, if_neg (by omega), e2, Nat.sub_self] at hx
    simp at hx
    rw [hx]
  · rw [if_neg e]
    refine h.2 v r x hv ?_
    rw [outs_succ, hd] at hx
    by_cases e1 : f A[i] = v
    · rw [if_pos e1, List.getElem?_append] at hx
      subst e1
      by_cases h3 : r < (outs A f i (f A[i])).length
      · rw [if_pos h3] at hx; exact hx
      · rw [if_neg h3] at hx
        have := (List.getElem?_eq_some_iff.1 hx).1
        simp at this
        exact absurd (by omega) e
    · rw [if_neg e1, List.append_nil] at hx; exact hx
theorem of1_ok {h0 : Hp} (ok : h0.t.Sized h0.n) {γ : Gra} (hγ : Good γ) {vx vy va : Value} {b : Nat} (hb : Row h0 b [.int .i64 γ.nodes, vx, vy, va] 1) (ga : GraphAt h0 vx vy va γ) {g : FuncId} {f : Arc → Nat} (hk : KeyF Tryz.abEnv g f) (hf : ∀ a ∈ γ.arcs, f a < γ.nodes) :
    Ret Tryz.abEnv 135 [.func (.func g) #[] #[], ptrTo b] h0 fun v h' => Gr h0 h' ∧ RowsAt h' h0.n v γ.nodes (outs γ.arcs f γ.arcs.length) := by
  have S := St.init (M := NoM) ok
  have n2 := hγ.n2
  have many := hγ.many
  obtain ⟨N, X, Y, A⟩ := γ
  simp only [] at hb n2 many hf
  have gA : SlAt h0 3 encA va A := ga.A
  have l0 := hb.load1 (o := 0) rfl
  have l3 := hb.load1 (o := 3) rfl
  refine enter_ret (n := 85) (rs := [.tmp 3]) rfl Tryz.e135 rfl rfl rfl (Nat.le_of_ble_eq_true rfl) ?_
  simp only [BS, Nat.add_zero, Nat.reduceLT, Nat.reduceEqDiff, if_true, if_false, eq_self, Tryz.FFt10135, l0]
  refine step_newS (mk_new (by first | exact Tryz.u25 | exact Tryz.u26 | exact Tryz.u35 | exact Tryz.u150) (by first | exact Tryz.e2E | exact Tryz.e3E | exact Tryz.e35E | exact Tryz.e60E) (by omega) (by omega)) S ?_; clear S; intro h bm S n_bm
  rw [rep_map] at S
  replace S : St NoM h0 h [(bm, .row ((List.range N).map (cntV A f 0)) 1)] [] := S
  simp only [BS, Nat.reduceLT, Nat.reduceEqDiff, if_true, if_false, Nat.zero_add, eq_self, Tryz.FFt10135, S.old l3 (fun h => h), gA.lenq, Int.toNat_natCast]
  refine loop_ind (fun (i : Nat) ρ h => i ≤ A.length ∧ St NoM h0 h [(bm, .row ((List.range N).map (cntV A f i)) 1)] [] ∧ ρ 0 = .func (.func g) #[] #[] ∧ ρ 1 = ptrTo b ∧ ρ 4 = .slice (some ⟨bm, 0, none⟩) N N ∧ ρ 18 = va ∧ ρ 19 = .int .i64 A.length ∧ ρ 20 = .int .i64 i) (fun i => A.length - i) ?_ 0 _ _ ?_
  · clear S
    intro i ih ρ h ⟨hi, S, r0, r1, r4, r18, r19, r20⟩
    by_cases hlt : i < A.length
    · obtain ⟨c, o, hidx, hld⟩ := (gA.gr S.gr).ix (kd := .i64) encA_len hlt
      have hfi : f A[i] < N := hf _ (List.getElem_mem hlt)
      have hol := outs_len A f i (f A[i])
      have w : wrapI .i64 ((i : Int) + 1) = ((i + 1 : Nat) : Int) := by rw [wrap64] <;> omega
      have w2 : wrapI .i64 (((outs A f i (f A[i])).length : Int) + 1) = (((outs A f i (f A[i])).length + 1 : Nat) : Int) := by rw [wrap64] <;> omega
      simp only [BS, Nat.reduceLT, Nat.reduceEqDiff, if_true, if_false, decide_true, eq_self, Tryz.FFt10135, r18, r19, r20, lt_nat, hlt, hidx, hld]
      refine step_newS allocR_new S ?_; clear S; intro h b6 S n_b6
      simp only [BS, Nat.reduceLT, Nat.reduceEqDiff, if_true, if_false, eq_self, encA]
      first | refine step_u (S.store (i := 0) rfl (by first | exact Tryz.s7 | exact Tryz.s8 | exact Tryz.s13 | exact Tryz.s14 | exact Tryz.s18 | exact Tryz.s19 | exact Tryz.s28 | exact Tryz.s60 | exact Tryz.s276 | exact Tryz.s277 | exact Tryz.s279 | exact Tryz.s286) (by intro x e; cases e) rfl rfl (Nat.le_of_ble_eq_true rfl) Nat.one_ne_zero) ?_ | refine step_u (S.store (i := 1) rfl (by first | exact Tryz.s7 | exact Tryz.s8 | exact Tryz.s13 | exact Tryz.s14 | exact Tryz.s18 | exact Tryz.s19 | exact Tryz.s28 | exact Tryz.s60 | exact Tryz.s276 | exact Tryz.s277 | exact Tryz.s279 | exact Tryz.s286) (by intro x e; cases e) rfl rfl (Nat.le_of_ble_eq_true rfl) Nat.one_ne_zero) ?_ | refine step_u (S.store (i := 2) rfl (by first | exact Tryz.s7 | exact Tryz.s8 | exact Tryz.s13 | exact Tryz.s14 | exact Tryz.s18 | exact Tryz.s19 | exact Tryz.s28 | exact Tryz.s60 | exact Tryz.s276 | exact Tryz.s277 | exact Tryz.s279 | exact Tryz.s286) (by intro x e; cases e) rfl rfl (Nat.le_of_ble_eq_true rfl) Nat.one_ne_zero) ?_ | refine step_u (S.store (i := 3) rfl (by first | exact Tryz.s7 | exact Tryz.s8 | exact Tryz.s13 | exact Tryz.s14 | exact Tryz.s18 | exact Tryz.s19 | exact Tryz.s28 | exact Tryz.s60 | exact Tryz.s276 | exact Tryz.s277 | exact Tryz.s279 | exact Tryz.s286) (by intro x e; cases e) rfl rfl (Nat.le_of_ble_eq_true rfl) Nat.one_ne_zero) ?_ | refine step_u (S.store (i := 4) rfl (by first | exact Tryz.s7 | exact Tryz.s8 | exact Tryz.s13 | exact Tryz.s14 | exact Tryz.s18 | exact Tryz.s19 | exact Tryz.s28 | exact Tryz.s60 | exact Tryz.s276 | exact Tryz.s277 | exact Tryz.s279 | exact Tryz.s286) (by intro x e; cases e) rfl rfl (Nat.le_of_ble_eq_true rfl) Nat.one_ne_zero) ?_ | refine step_u (S.store (i := 5) rfl (by first | exact Tryz.s7 | exact Tryz.s8 | exact Tryz.s13 | exact Tryz.s14 | exact Tryz.s18 | exact Tryz.s19 | exact Tryz.s28 | exact Tryz.s60 | exact Tryz.s276 | exact Tryz.s277 | exact Tryz.s279 | exact Tryz.s286) (by intro x e; cases e) rfl rfl (Nat.le_of_ble_eq_true rfl) Nat.one_ne_zero) ?_ | refine step_u (S.store (i := 6) rfl (by first | exact Tryz.s7 | exact Tryz.s8 | exact Tryz.s13 | exact Tryz.s14 | exact Tryz.s18 | exact Tryz.s19 | exact Tryz.s28 | exact Tryz.s60 | exact Tryz.s276 | exact Tryz.s277 | exact Tryz.s279 | exact Tryz.s286) (by intro x e; cases e) rfl rfl (Nat.le_of_ble_eq_true rfl) Nat.one_ne_zero) ?_ | refine step_u (S.store (i := 7) rfl (by first | exact Tryz.s7 | exact Tryz.s8 | exact Tryz.s13 | exact Tryz.s14 | exact Tryz.s18 | exact Tryz.s19 | exact Tryz.s28 | exact Tryz.s60 | exact Tryz.s276 | exact Tryz.s277 | exact Tryz.s279 | exact Tryz.s286) (by intro x e; cases e) rfl rfl (Nat.le_of_ble_eq_true rfl) Nat.one_ne_zero) ?_
      clear S; rintro h ⟨S, mo⟩; clear mo; simp only [List.set_cons_zero, List.set_cons_succ, vcells, lay, List.take, List.drop, List.nil_append, List.cons_append, List.append_nil, List.length_cons, List.length_nil, Nat.reduceAdd, Nat.add_zero] at S
      simp only [BS, Nat.reduceLT, Nat.reduceEqDiff, if_true, if_false, List.map_cons, List.map_nil, List.append_nil, List.nil_append, eq_self, Tryz.FFt10135, r0, r4, S.lds (b := b6) (o := 0) (n := 3) (by first | exact m0 | exact m1 | exact m2 | exact m3 | exact m4 | exact m5 | exact m6 | exact m7) (Nat.le_of_ble_eq_true rfl)]
      refine step_pure (hk _ A[i] S.ok) ?_; intro h g; replace S := S.call g; clear g
      have lm := S.ld (b := bm) (o := f A[i]) m1 (mapr_at (F := cntV A f i) hfi)
      unfold cntV at lm
      simp only [BS, Nat.reduceLT, Nat.reduceEqDiff, if_true, if_false, Nat.mul_one, Nat.zero_add, eq_self, Tryz.FFt10135, hfi, lm, w2]
      refine step_u (store_fl S (i := 1) rfl Tryz.s3 fl_int (by simpa using hfi) Nat.one_ne_zero) ?_
      clear S lm; rintro h ⟨S, mo⟩; clear mo
      simp only [List.set_cons_zero, List.set_cons_succ] at S
      rw [cnt_set hlt] at S
      replace S := S.drop1
      simp only [BS, Nat.reduceLT, Nat.reduceEqDiff, if_true, if_false, eq_self, r20, w]
      exact ih (i + 1) _ _ (by omega) ⟨by omega, S, by simp [setR, r0], by simp [setR, r1, ptr_eq], by simp [setR, r4], by simp [setR, r18], by simp [setR, r19], by simp [setR]⟩
    · have hiN : i = A.length := by omega
      subst hiN
      simp only [BS, Nat.reduceLT, if_true, decide_false, eq_self, r19, r20, lt_nat, hlt]
      refine draw_step (hoist_no rfl) (q := 72) (ps := []) (by kernel_rfl) ?_
      simp only [BS, cls, Nat.reduceLT, Nat.reduceEqDiff, Nat.reduceAdd, if_true, if_false, Nat.reducePow, Nat.reduceDiv, Nat.reduceMod, Nat.reduceLeDiff, Bool.and_true, Bool.and_false, Nat.zero_add, decide_true, decide_false, eq_self, Tryz.FFt10135, r1, S.old l3 (fun h => h), gA.lenq]
      refine dq_newS (mk_new (by first | exact Tryz.u25 | exact Tryz.u26 | exact Tryz.u35 | exact Tryz.u150) (by first | exact Tryz.e2E | exact Tryz.e3E | exact Tryz.e35E | exact Tryz.e60E) (by omega) (by omega)) S ?_; clear S; intro h ba S n_ba e_ba
      rw [rep_map] at S
      simp only [BS, cls, Nat.add_zero, Nat.reduceLT, Nat.reduceEqDiff, Nat.reduceAdd, if_true, if_false, Nat.reducePow, Nat.reduceDiv, Nat.reduceMod, Nat.reduceLeDiff, Bool.and_true, Bool.and_false, decide_true, decide_false, eq_self, Tryz.FFt10135, r1, S.old l0 (fun h => h), Int.toNat_natCast]
      refine dq_newS (mk_new (by first | exact Tryz.u25 | exact Tryz.u26 | exact Tryz.u35 | exact Tryz.u150) (by first | exact Tryz.e2E | exact Tryz.e3E | exact Tryz.e35E | exact Tryz.e60E) (by omega) (by omega)) S ?_; clear S; intro h br S n_br e_br
      rw [rep_map] at S
      simp only [BS, cls, Nat.reduceLT, Nat.reduceEqDiff, Nat.reduceAdd, if_true, if_false, Nat.reducePow, Nat.reduceDiv, Nat.reduceMod, Nat.reduceLeDiff, Bool.and_false, true_and, decide_false, eq_self, Tryz.FFt10135, r4, Int.toNat_natCast]
      have e0 : (List.range N).map (fun v => if v < 0 then rowV A f ba v 0 else .slice none 0 0) = (List.range N).map (fun _ => (.slice none 0 0 : Value)) := by simp
      rw [← e0] at S
      refine loop_ind (fun (j : Nat) ρ h => j ≤ N ∧ St NoM h0 h [(br, .row ((List.range N).map fun v => if v < j then rowV A f ba v 0 else .slice none 0 0) 1), (ba, .row ((List.range A.length).map fun _ => .int .i64 0) 1), (bm, .row ((List.range N).map (cntV A f A.length)) 1)] [] ∧
        ρ 0 = .func (.func g) #[] #[] ∧ ρ 1 = ptrTo b ∧ ρ 7 = .slice (some ⟨ba, 0, none⟩) A.length A.length ∧ ρ 8 = .slice (some ⟨br, 0, none⟩) N N ∧ ρ 9 = .int .i64 (start A f j) ∧ ρ 40 = .slice (some ⟨bm, 0, none⟩) N N ∧ ρ 41 = .int .i64 N ∧ ρ 42 = .int .i64 j) (fun j => N - j) ?_ 0 _ _ ?_
      · clear S r0 r1 r4 r18 r19 r20
        intro j ih ρ h ⟨hj, S, r0, r1, r7, r8, r9, r40, r41, r42⟩
        by_cases hjt : j < N
        · have lm := S.ld (b := bm) (o := j) m2 (mapr_at (F := cntV A f A.length) hjt)
          unfold cntV at lm
          have top := start_top A f j
          have w : wrapI .i64 ((j : Int) + 1) = ((j + 1 : Nat) : Int) := by rw [wrap64] <;> omega
          have w2 : wrapI .i64 ((start A f j : Int) + ((outs A f A.length j).length : Nat)) = ((start A f j + (outs A f A.length j).length : Nat) : Int) := by rw [wrap64] <;> omega
          have sl : sliceP Tryz.abEnv 35 (.slice (some ⟨ba, 0, none⟩) A.length A.length) (some (.int .i64 (start A f j))) (some (.int .i64 (start A f j))) (some (.int .i64 ((start A f j + (outs A f A.length j).length : Nat) : Int))) = some (rowV A f ba j 0) := by
            rw [slice_at Tryz.u35 Tryz.s3 (by omega) (by omega)]
            unfold rowV
            rw [Nat.add_sub_cancel_left, Nat.mul_one]
            by_cases hz : (outs A f A.length j).length = 0
            · rw [if_pos (by omega), if_pos hz]
            · rw [if_neg (by omega), if_neg hz]
          have fr : Fl (rowV A f ba j 0) := fl_slice
          simp only [BS, Nat.reduceLT, Nat.reduceEqDiff, if_true, if_false, Nat.mul_one, Nat.zero_add, decide_true, Option.map_some, eq_self, Tryz.FFt10135, r7, r8, r9, r40, r41, r42, lt_nat, hjt, lm, w2, sl]
          refine step_u (store_fl S (i := 0) rfl Tryz.s35 fr (by simpa using hjt) Nat.one_ne_zero) ?_
          clear S lm; rintro h ⟨S, mo⟩; clear mo
          simp only [List.set_cons_zero, List.set_cons_succ] at S
          rw [show ((List.range N).map fun v => if v < j then rowV A f ba v 0 else .slice none 0 0).set j (rowV A f ba j 0) = (List.range N).map fun v => if v < j + 1 then rowV A f ba v 0 else .slice none 0 0 from by
            have := mapr_set (N := N) (k := j) (F := fun v => if v < j then rowV A f ba v 0 else .slice none 0 0) (F' := fun v => if v < j + 1 then rowV A f ba v 0 else .slice none 0 0) (fun v hv hne => by
              show ite _ _ _ = ite _ _ _
              by_cases h1 : v < j
              · rw [if_pos h1, if_pos (by omega)]
              · rw [if_neg h1, if_neg (by omega)])
            simp only [if_pos (show j < j + 1 by omega)] at this
            exact this] at S
          simp only [BS, Nat.reduceLT, Nat.reduceEqDiff, if_true, if_false, eq_self, r9, r42, w, w2]
          exact ih (j + 1) _ _ (by omega) ⟨by omega, S, by simp [setR, r0], by simp [setR, r1, ptr_eq], by simp [setR, r7], by simp [setR, r8], by simp [setR, start], by simp [setR, r40], by simp [setR, r41], by simp [setR]⟩
        · have hjN : j = N := by omega
          subst hjN
          simp only [BS, Nat.reduceLT, Nat.reduceEqDiff, if_true, if_false, Nat.zero_add, decide_false, eq_self, Tryz.FFt10135, r1, r41, r42, lt_nat, hjt, S.old l3 (fun h => h), gA.lenq]
          have e1 : ((List.range j).map fun v => if v < j then rowV A f ba v 0 else .slice none 0 0) = (List.range j).map fun v => rowV A f ba v (outs A f 0 v).length := by
            refine List.map_congr_left fun v hv => ?_
            rw [if_pos (List.mem_range.1 hv)]; rfl
          rw [e1] at S
          refine loop_ind (fun (i : Nat) ρ h => i ≤ A.length ∧ (∃ cs, FillAt A f j i cs ∧ St NoM h0 h [(br, .row ((List.range j).map fun v => rowV A f ba v (outs A f i v).length) 1), (ba, .row cs 1), (bm, .row ((List.range j).map (cntV A f A.length)) 1)] []) ∧
            ρ 0 = .func (.func g) #[] #[] ∧ ρ 1 = ptrTo b ∧ ρ 8 = .slice (some ⟨br, 0, none⟩) j j ∧ ρ 62 = va ∧ ρ 63 = .int .i64 A.length ∧ ρ 64 = .int .i64 i) (fun i => A.length - i) ?_ 0 _ _ ?_
          · clear S r0 r1 r7 r8 r9 r40 r41 r42
            intro i ih ρ h ⟨hi, ⟨cs, hcs, S⟩, r0, r1, r8, r62, r63, r64⟩
            by_cases hlt : i < A.length
            · obtain ⟨c, o, hidx, hld⟩ := (gA.gr S.gr).ix (kd := .i64) encA_len hlt
              have hfi : f A[i] < j := hf _ (List.getElem_mem hlt)
              have w : wrapI .i64 ((i : Int) + 1) = ((i + 1 : Nat) : Int) := by rw [wrap64] <;> omega
              simp only [BS, Nat.reduceLT, Nat.reduceEqDiff, if_true, if_false, decide_true, eq_self, Tryz.FFt10135, r62, r63, r64, lt_nat, hlt, hidx, hld]
              refine step_newS allocR_new S ?_; clear S; intro h b13 S n_b13
              simp only [BS, Nat.reduceLT, Nat.reduceEqDiff, if_true, if_false, eq_self, encA]
              first | refine step_u (S.store (i := 0) rfl (by first | exact Tryz.s7 | exact Tryz.s8 | exact Tryz.s13 | exact Tryz.s14 | exact Tryz.s18 | exact Tryz.s19 | exact Tryz.s28 | exact Tryz.s60 | exact Tryz.s276 | exact Tryz.s277 | exact Tryz.s279 | exact Tryz.s286) (by intro x e; cases e) rfl rfl (Nat.le_of_ble_eq_true rfl) Nat.one_ne_zero) ?_ | refine step_u (S.store (i := 1) rfl (by first | exact Tryz.s7 | exact Tryz.s8 | exact Tryz.s13 | exact Tryz.s14 | exact Tryz.s18 | exact Tryz.s19 | exact Tryz.s28 | exact Tryz.s60 | exact Tryz.s276 | exact Tryz.s277 | exact Tryz.s279 | exact Tryz.s286) (by intro x e; cases e) rfl rfl (Nat.le_of_ble_eq_true rfl) Nat.one_ne_zero) ?_ | refine step_u (S.store (i := 2) rfl (by first | exact Tryz.s7 | exact Tryz.s8 | exact Tryz.s13 | exact Tryz.s14 | exact Tryz.s18 | exact Tryz.s19 | exact Tryz.s28 | exact Tryz.s60 | exact Tryz.s276 | exact Tryz.s277 | exact Tryz.s279 | exact Tryz.s286) (by intro x e; cases e) rfl rfl (Nat.le_of_ble_eq_true rfl) Nat.one_ne_zero) ?_ | refine step_u (S.store (i := 3) rfl (by first | exact Tryz.s7 | exact Tryz.s8 | exact Tryz.s13 | exact Tryz.s14 | exact Tryz.s18 | exact Tryz.s19 | exact Tryz.s28 | exact Tryz.s60 | exact Tryz.s276 | exact Tryz.s277 | exact Tryz.s279 | exact Tryz.s286) (by intro x e; cases e) rfl rfl (Nat.le_of_ble_eq_true rfl) Nat.one_ne_zero) ?_ | refine step_u (S.store (i := 4) rfl (by first | exact Tryz.s7 | exact Tryz.s8 | exact Tryz.s13 | exact Tryz.s14 | exact Tryz.s18 | exact Tryz.s19 | exact Tryz.s28 | exact Tryz.s60 | exact Tryz.s276 | exact Tryz.s277 | exact Tryz.s279 | exact Tryz.s286) (by intro x e; cases e) rfl rfl (Nat.le_of_ble_eq_true rfl) Nat.one_ne_zero) ?_ | refine step_u (S.store (i := 5) rfl (by first | exact Tryz.s7 | exact Tryz.s8 | exact Tryz.s13 | exact Tryz.s14 | exact Tryz.s18 | exact Tryz.s19 | exact Tryz.s28 | exact Tryz.s60 | exact Tryz.s276 | exact Tryz.s277 | exact Tryz.s279 | exact Tryz.s286) (by intro x e; cases e) rfl rfl (Nat.le_of_ble_eq_true rfl) Nat.one_ne_zero) ?_ | refine step_u (S.store (i := 6) rfl (by first | exact Tryz.s7 | exact Tryz.s8 | exact Tryz.s13 | exact Tryz.s14 | exact Tryz.s18 | exact Tryz.s19 | exact Tryz.s28 | exact Tryz.s60 | exact Tryz.s276 | exact Tryz.s277 | exact Tryz.s279 | exact Tryz.s286) (by intro x e; cases e) rfl rfl (Nat.le_of_ble_eq_true rfl) Nat.one_ne_zero) ?_ | refine step_u (S.store (i := 7) rfl (by first | exact Tryz.s7 | exact Tryz.s8 | exact Tryz.s13 | exact Tryz.s14 | exact Tryz.s18 | exact Tryz.s19 | exact Tryz.s28 | exact Tryz.s60 | exact Tryz.s276 | exact Tryz.s277 | exact Tryz.s279 | exact Tryz.s286) (by intro x e; cases e) rfl rfl (Nat.le_of_ble_eq_true rfl) Nat.one_ne_zero) ?_
              clear S; rintro h ⟨S, mo⟩; clear mo; simp only [List.set_cons_zero, List.set_cons_succ, vcells, lay, List.take, List.drop, List.nil_append, List.cons_append, List.append_nil, List.length_cons, List.length_nil, Nat.reduceAdd, Nat.add_zero] at S
              simp only [BS]
              refine draw_step (hoist_no rfl) (q := 2184) (ps := [(3, 6)]) (by kernel_rfl) ?_
              simp only [BS, cls, Nat.reduceLT, Nat.reduceEqDiff, Nat.reduceAdd, if_true, if_false, List.map_cons, List.map_nil, List.append_nil, List.nil_append, Nat.reducePow, Nat.reduceDiv, Nat.reduceMod, Nat.reduceLeDiff, Bool.and_true, Bool.and_false, Nat.zero_add, decide_true, decide_false, eq_self, Tryz.FFt10135, r0, r8, S.lds (b := b13) (o := 0) (n := 3) (by first | exact m0 | exact m1 | exact m2 | exact m3 | exact m4 | exact m5 | exact m6 | exact m7) (Nat.le_of_ble_eq_true rfl)]
              refine dq_pure (hk _ A[i] S.ok) ?_
              intro h g1; replace S := S.call g1; clear g1
              simp only [BS, cls, Nat.reduceLT, Nat.reduceEqDiff, Nat.reduceAdd, if_true, if_false, List.map_cons, List.map_nil, List.append_nil, List.nil_append, Nat.reducePow, Nat.reduceDiv, Nat.reduceMod, Nat.reduceLeDiff, Bool.and_true, Bool.and_false, decide_true, decide_false, eq_self, Tryz.FFt10135, r0, r8, S.lds (b := b13) (o := 0) (n := 3) (by first | exact m0 | exact m1 | exact m2 | exact m3 | exact m4 | exact m5 | exact m6 | exact m7) (Nat.le_of_ble_eq_true rfl)]
              refine dq_pure (hk _ A[i] S.ok) ?_
              intro h g1; replace S := S.call g1; clear g1
              have hd : A.getD i default = A[i] := by simp [List.getD_eq_getElem?_getD, hlt]
              have hl : (outs A f (i + 1) (f A[i])).length ≤ (outs A f A.length (f A[i])).length := outs_le A f (by omega) _
              rw [outs_succ, hd, if_pos rfl, List.length_append, List.length_singleton] at hl
              have top := start_top A f (f A[i])
              have hK : (outs A f A.length (f A[i])).length ≠ 0 := by omega
              have lr := S.ld (b := br) (o := f A[i]) m1 (mapr_at (F := fun v => rowV A f ba v (outs A f i v).length) hfi)
              simp only [rowV, if_neg hK] at lr
              simp only [BS, cls, Nat.reduceLT, Nat.reduceEqDiff, Nat.reduceAdd, if_true, if_false, List.map_cons, List.map_nil, Nat.reducePow, Nat.reduceDiv, Nat.reduceMod, Nat.reduceLeDiff, Bool.and_true, Bool.and_false, Nat.mul_one, Nat.zero_add, decide_true, decide_false, eq_self, Tryz.FFt10135, hfi, lr]
              refine dq_newS (bs_new (by first | exact Tryz.u25 | exact Tryz.u26 | exact Tryz.u35 | exact Tryz.u150) (by first | exact Tryz.e2E | exact Tryz.e3E | exact Tryz.e35E | exact Tryz.e60E) (by decide) (by first | rfl | exact fillE )) S ?_; clear S; intro h bs S n_bs e_bs; simp only [repL, setL, vcells, List.cons_append, List.nil_append, List.append_nil, List.set_cons_zero, List.set_cons_succ, Nat.reduceMul, Nat.reduceAdd, Nat.zero_mul, Nat.zero_add, Nat.mul_one, Nat.one_mul] at S
              simp only [BS, cls, Nat.reduceLT, Nat.reduceEqDiff, Nat.reduceAdd, if_true, if_false, Nat.reducePow, Nat.reduceDiv, Nat.reduceMod, Nat.reduceLeDiff, Bool.and_true, decide_true, decide_false, eq_self]
              obtain ⟨h2, e2, S2, mo2⟩ := S.fill (i := 3) (x := .slice (some ⟨bs, 0, none⟩) 1 1) (v := .int .i64 (i : Nat)) (off := start A f (f A[i])) (len := (outs A f i (f A[i])).length) (cap := (outs A f A.length (f A[i])).length) (s := none) rfl Tryz.u35 Tryz.e3E Tryz.n35
                (by simp only [srcCells]; rw [S.lds (b := bs) (o := 0) (n := 1 * 1) m0 (Nat.le_of_ble_eq_true rfl)]; rfl) fl_int (by omega) (by have := hcs.1; omega) Nat.one_ne_zero (ts := [])
              refine dn_v (P := fun h' v => h' = h2 ∧ v = .slice (some ⟨ba, start A f (f A[i]), none⟩) ((outs A f i (f A[i])).length + 1) (outs A f A.length (f A[i])).length) ⟨_, _, e2, rfl, rfl⟩ ?_
              rintro h v ⟨rfl, rfl⟩
              clear S e2 mo2; have S := S2; clear S2
              simp only [List.set_cons_zero, List.set_cons_succ] at S
              simp only [BS, cls, Nat.reduceLT, Nat.reduceEqDiff, Nat.reduceAdd, if_true, if_false, Nat.reducePow, Nat.reduceDiv, Nat.reduceMod, Nat.reduceLeDiff, Bool.and_false, Nat.mul_one, Nat.zero_add, decide_false, eq_self, Tryz.FFt10135, hfi]
              refine dn_u (store_fl S (i := 2) rfl Tryz.s35 fl_slice (by simpa using hfi) Nat.one_ne_zero) ?_
              clear S; rintro h ⟨S, mo⟩; clear mo
              simp only [List.set_cons_zero, List.set_cons_succ] at S
              have e3 : ((List.range j).map fun v => rowV A f ba v (outs A f i v).length).set (f A[i]) (.slice (some ⟨ba, start A f (f A[i]), none⟩) ((outs A f i (f A[i])).length + 1) (outs A f A.length (f A[i])).length) = (List.range j).map fun v => rowV A f ba v (outs A f (i + 1) v).length := by
                have := mapr_set (N := j) (k := f A[i]) (F := fun v => rowV A f ba v (outs A f i v).length) (F' := fun v => rowV A f ba v (outs A f (i + 1) v).length) (fun v hv hne => by
                  show rowV _ _ _ _ _ = rowV _ _ _ _ _
                  rw [outs_succ, hd, if_neg (fun e => hne e.symm), List.append_nil])
                rw [← this]
                congr 1
                show _ = rowV _ _ _ _ _
                rw [outs_succ, hd, if_pos rfl, List.length_append]
                unfold rowV
                rw [if_neg hK]; rfl
              rw [e3] at S
              replace S := S.drop1.drop1
              simp only [BS, Nat.reduceLT, Nat.reduceEqDiff, Nat.reduceAdd, if_true, if_false, eq_self, r64, w]
              refine ⟨by simp only [pairs_cons, pairs_nil, entry_noted, entry_hit, entry_miss, ne_eq, not_false_eq_true, note_load, note_run, note_alloc, noted_some, ll_tmp, ll_put, setR_at, Nat.reduceLT, Nat.reduceEqDiff, reduceIte, Bool.and_true, r0, r1, r8, ptr_eq, note_runq, noted_none, entry_nil, pair_n], ?_⟩
              exact ih (i + 1) _ _ (by omega) ⟨by omega, ⟨_, fill_step hcs hlt, S⟩, by simp [setR, r0], by simp [setR, r1, ptr_eq], by simp [setR, r8], by simp [setR, r62], by simp [setR, r63], by simp [setR]⟩
            · have hiN : i = A.length := by omega
              subst hiN
              simp only [BS, tupleOf, Nat.reduceLT, Nat.reduceEqDiff, if_true, if_false, decide_false, eq_self, r8, r63, r64, lt_nat, hlt]
              refine ⟨S.gr, br, _, rfl, n_br, S.row m0, by simp, fun v hv => ⟨_, mapr_at hv, .inr ⟨ba, _, none, _, rfl, Nat.le_refl _, ?_⟩, fun c (hc : ba = c) => hc ▸ n_ba⟩⟩
              have hR := S.row (b := ba) (l := cs) (md := 1) m1
              have ht := start_top A f v
              have hl := hcs.1
              rw [Nat.mul_one]
              by_cases hz : (outs A f A.length v).length = 0
              · rw [if_pos hz, hz, hR.load (by omega)]
                rw [List.length_eq_zero_iff.1 hz]; rfl
              · rw [if_neg hz, hR.load (by omega)]
                congr 1
                refine List.ext_getElem? fun r => ?_
                have e4 : (outs A f A.length v).flatMap encN = (outs A f A.length v).map fun x => .int .i64 (x : Nat) := by
                  rw [List.flatMap_eq_foldl, List.map_eq_flatMap, List.flatMap_eq_foldl]; rfl
                rw [e4, List.getElem?_map, List.getElem?_take, List.getElem?_drop]
                by_cases hr : r < (outs A f A.length v).length
                · rw [if_pos hr, hcs.2 v r _ hv (List.getElem?_eq_getElem hr), List.getElem?_eq_getElem hr]; rfl
                · rw [if_neg hr, List.getElem?_eq_none (by omega)]; rfl
          · exact ⟨Nat.zero_le _, ⟨_, fill_zero, S⟩, by simp [setR, r0], by simp [setR, r1, ptr_eq], by simp [setR, r8], by simp [setR], by simp [setR], by simp [setR]⟩
      · exact ⟨Nat.zero_le _, S, by simp [setR, r0], by simp [setR, r1, ptr_eq], by simp [setR], by simp [setR], by simp [setR, start], by simp [setR, r4], by simp [setR], by simp [setR]⟩
  · exact ⟨Nat.zero_le _, S, by simp [setR, argR_zero], by simp [setR, argR_zero, argR_succ, ptr_eq], by simp [setR], by simp [setR], by simp [setR], by simp [setR]⟩
end Go.Ab

end
section
/- net.of, net.New. -/
set_option maxHeartbeats 4000000

set_option linter.unusedVariables false
namespace Go.Ab
open Go.Proofs
set_option maxRecDepth 10000
set_option linter.defProp false
def Tryz.FFt1196 := And.intro Tryz.a1 <| And.intro Tryz.s1 <| And.intro Tryz.z1 <| And.intro Tryz.n1 <| And.intro Tryz.u2 <| And.intro Tryz.a2 <| And.intro Tryz.s2 <| And.intro Tryz.z2 <| And.intro Tryz.i2 <| And.intro Tryz.u3 <| And.intro Tryz.a3 <| And.intro Tryz.s3 <| And.intro Tryz.z3 <| And.intro Tryz.i3 <| And.intro Tryz.u4 <| And.intro Tryz.a4 <| And.intro Tryz.s4 <| And.intro Tryz.z4 <| And.intro Tryz.n4 <| And.intro Tryz.u25 <| And.intro Tryz.a25 <| And.intro Tryz.s25 <| And.intro Tryz.z25 <| And.intro Tryz.q25 <| And.intro Tryz.n25 <| And.intro Tryz.u26 <| And.intro Tryz.a26 <| And.intro Tryz.s26 <| And.intro Tryz.z26 <| And.intro Tryz.q26 <| And.intro Tryz.n26 <| And.intro Tryz.a28 <| And.intro Tryz.s28 <| And.intro Tryz.z28 <| And.intro Tryz.i28 <| And.intro Tryz.n28 <| And.intro Tryz.p28 <| And.intro Tryz.ff28 <| And.intro Tryz.d28 <| And.intro Tryz.u29 <| And.intro Tryz.a29 <| And.intro Tryz.s29 <| And.intro Tryz.z29 <| And.intro Tryz.q29 <| And.intro Tryz.i29 <| And.intro Tryz.n29 <| And.intro Tryz.u35 <| And.intro Tryz.a35 <| And.intro Tryz.s35 <| And.intro Tryz.z35 <| And.intro Tryz.q35 <| And.intro Tryz.n35 <| And.intro Tryz.a60 <| And.intro Tryz.s60 <| And.intro Tryz.z60 <| And.intro Tryz.i60 <| And.intro Tryz.n60 <| And.intro Tryz.p60 <| And.intro Tryz.ff60 <| And.intro Tryz.d60 <| And.intro Tryz.a124 <| And.intro Tryz.s124 <| And.intro Tryz.z124 <| And.intro Tryz.n124 <| And.intro Tryz.u150 <| And.intro Tryz.a150 <| And.intro Tryz.s150 <| And.intro Tryz.z150 <| And.intro Tryz.q150 <| And.intro Tryz.n150 <| And.intro Tryz.a152 <| And.intro Tryz.s152 <| And.intro Tryz.z152 <| And.intro Tryz.i152 <| And.intro Tryz.n152 <| And.intro Tryz.p152 <| And.intro Tryz.ff152 <| And.intro Tryz.d152 <| And.intro Tryz.a195 <| And.intro Tryz.s195 <| And.intro Tryz.z195 <| Tryz.n195
def Tryz.FFt1140 := And.intro Tryz.a1 <| And.intro Tryz.s1 <| And.intro Tryz.z1 <| And.intro Tryz.n1 <| And.intro Tryz.u2 <| And.intro Tryz.a2 <| And.intro Tryz.s2 <| And.intro Tryz.z2 <| And.intro Tryz.i2 <| And.intro Tryz.u3 <| And.intro Tryz.a3 <| And.intro Tryz.s3 <| And.intro Tryz.z3 <| And.intro Tryz.i3 <| And.intro Tryz.u4 <| And.intro Tryz.a4 <| And.intro Tryz.s4 <| And.intro Tryz.z4 <| And.intro Tryz.n4 <| And.intro Tryz.u5 <| And.intro Tryz.a5 <| And.intro Tryz.s5 <| And.intro Tryz.z5 <| And.intro Tryz.i5 <| And.intro Tryz.u25 <| And.intro Tryz.a25 <| And.intro Tryz.s25 <| And.intro Tryz.z25 <| And.intro Tryz.q25 <| And.intro Tryz.n25 <| And.intro Tryz.u26 <| And.intro Tryz.a26 <| And.intro Tryz.s26 <| And.intro Tryz.z26 <| And.intro Tryz.q26 <| And.intro Tryz.n26 <| And.intro Tryz.a28 <| And.intro Tryz.s28 <| And.intro Tryz.z28 <| And.intro Tryz.i28 <| And.intro Tryz.n28 <| And.intro Tryz.p28 <| And.intro Tryz.ff28 <| And.intro Tryz.d28 <| And.intro Tryz.u29 <| And.intro Tryz.a29 <| And.intro Tryz.s29 <| And.intro Tryz.z29 <| And.intro Tryz.q29 <| And.intro Tryz.i29 <| And.intro Tryz.n29 <| And.intro Tryz.a60 <| And.intro Tryz.s60 <| And.intro Tryz.z60 <| And.intro Tryz.i60 <| And.intro Tryz.n60 <| And.intro Tryz.p60 <| And.intro Tryz.ff60 <| And.intro Tryz.d60 <| And.intro Tryz.a87 <| And.intro Tryz.s87 <| And.intro Tryz.z87 <| And.intro Tryz.q87 <| And.intro Tryz.n87 <| And.intro Tryz.u140 <| And.intro Tryz.a140 <| And.intro Tryz.s140 <| And.intro Tryz.z140 <| And.intro Tryz.i140 <| And.intro Tryz.a142 <| And.intro Tryz.s142 <| And.intro Tryz.z142 <| And.intro Tryz.i142 <| And.intro Tryz.n142 <| And.intro Tryz.p142 <| And.intro Tryz.ff142 <| And.intro Tryz.d142 <| And.intro Tryz.u144 <| And.intro Tryz.a144 <| And.intro Tryz.s144 <| And.intro Tryz.z144 <| And.intro Tryz.q144 <| And.intro Tryz.i144 <| And.intro Tryz.n144 <| And.intro Tryz.a146 <| And.intro Tryz.s146 <| And.intro Tryz.z146 <| And.intro Tryz.i146 <| And.intro Tryz.n146 <| And.intro Tryz.p146 <| And.intro Tryz.ff146 <| And.intro Tryz.d146 <| And.intro Tryz.u150 <| And.intro Tryz.a150 <| And.intro Tryz.s150 <| And.intro Tryz.z150 <| And.intro Tryz.q150 <| And.intro Tryz.n150 <| And.intro Tryz.a152 <| And.intro Tryz.s152 <| And.intro Tryz.z152 <| And.intro Tryz.i152 <| And.intro Tryz.n152 <| And.intro Tryz.p152 <| And.intro Tryz.ff152 <| Tryz.d152
theorem of_ok {h0 : Hp} (ok : h0.t.Sized h0.n) {γ : Gra} (hγ : Good γ) {vx vy va : Value} (ga : GraphAt h0 vx vy va γ) {m : Nat} (hm : m ≤ h0.n) (hz : ∀ c, blkOf vx c ∨ blkOf vy c ∨ blkOf va c → m ≤ c) :
    Ret Tryz.abEnv 96 [rawV γ vx vy va] h0 fun v h' => Gr h0 h' ∧ NetAt h' m v γ := by
  have S := St.init (M := NoM) ok
  refine enter_ret (n := 20) (rs := [.tmp 2]) rfl Tryz.e96 rfl rfl rfl (Nat.le_of_ble_eq_true rfl) ?_
  simp only [BS, Nat.reduceLT, rawV]
  refine step_newS (box_new (by intro x e; cases e)) S ?_; clear S; intro h b S n_b; simp only [vcells] at S
  simp only [BS, Option.isSome_some, Nat.reduceLT, Nat.reduceEqDiff, Nat.reduceAdd, if_true, if_false, List.map_cons, List.map_nil, List.length_cons, List.length_nil, List.set_cons_zero, List.set_cons_succ, List.getElem?_cons_zero, Nat.reduceLeDiff, Nat.zero_add, eq_self, Tryz.FFt1196, List.drop_zero, List.take_succ_cons, List.take_zero, S.lds (b := b) (o := 0) (n := 4) (by first | exact m0 | exact m1 | exact m2 | exact m3 | exact m4 | exact m5 | exact m6 | exact m7) (Nat.le_of_ble_eq_true rfl)]
  refine step_newS (box_new (by intro x e; cases e)) S ?_; clear S; intro h b2 S n_b2; simp only [vcells] at S
  simp only [BS, Nat.reduceLT, Nat.reduceEqDiff, if_true, if_false, List.map_cons, List.map_nil, List.nil_append, List.cons_append, List.map_toArray, eq_self]
  have k1 := S.fr.n
  have lt1 := (S.row (b := b2) m0).lt S.ok
  refine step_ret (of1_ok S.ok hγ (S.row m1) (ga.gr S.gr) of2_key (fun a ha => (hγ.arcs a ha).1)) ?_; intro vo h ⟨g, R1⟩; replace S := S.call g; clear g
  simp only [BS, Nat.reduceLT, Nat.reduceEqDiff, if_true, if_false, List.map_cons, List.map_nil, List.nil_append, List.cons_append, eq_self]
  have k2 := S.fr.n
  have lt2 := (S.row (b := b2) m0).lt S.ok
  refine step_ret (of1_ok S.ok hγ (S.row m1) (ga.gr S.gr) of3_key (fun a ha => (hγ.arcs a ha).2.1)) ?_; intro v h ⟨g, R2⟩; replace S := S.call g; replace R1 := R1.gr g; clear g
  have f1 : Fl v := by obtain ⟨_, _, rfl, _⟩ := R2; exact fl_slice
  have f2 : Fl vo := by obtain ⟨_, _, rfl, _⟩ := R1; exact fl_slice
  simp only [BS, Nat.reduceLT, Nat.reduceEqDiff, if_true, if_false, Nat.zero_add, eq_self, Tryz.FFt1196]
  have a1 : ∀ c, c = b2 → c < _ := fun c e => e ▸ lt1
  have a2 : ∀ c, c = b2 → c < _ := fun c e => e ▸ lt2
  first | refine step_u (store_fl S (i := 0) rfl (by simp only [Tryz.FFt1196]) (by first | exact fl_int | exact fl_slice | exact fl_ptr | exact fl_bool | exact fl_map | exact fl_func | exact fl_nili | exact fl_iface | exact fl_nilf | exact fl_str | assumption) (Nat.lt_of_succ_le (Nat.le_of_ble_eq_true rfl)) Nat.one_ne_zero) ?_ | refine step_u (store_fl S (i := 1) rfl (by simp only [Tryz.FFt1196]) (by first | exact fl_int | exact fl_slice | exact fl_ptr | exact fl_bool | exact fl_map | exact fl_func | exact fl_nili | exact fl_iface | exact fl_nilf | exact fl_str | assumption) (Nat.lt_of_succ_le (Nat.le_of_ble_eq_true rfl)) Nat.one_ne_zero) ?_ | refine step_u (store_fl S (i := 2) rfl (by simp only [Tryz.FFt1196]) (by first | exact fl_int | exact fl_slice | exact fl_ptr | exact fl_bool | exact fl_map | exact fl_func | exact fl_nili | exact fl_iface | exact fl_nilf | exact fl_str | assumption) (Nat.lt_of_succ_le (Nat.le_of_ble_eq_true rfl)) Nat.one_ne_zero) ?_ | refine step_u (store_fl S (i := 3) rfl (by simp only [Tryz.FFt1196]) (by first | exact fl_int | exact fl_slice | exact fl_ptr | exact fl_bool | exact fl_map | exact fl_func | exact fl_nili | exact fl_iface | exact fl_nilf | exact fl_str | assumption) (Nat.lt_of_succ_le (Nat.le_of_ble_eq_true rfl)) Nat.one_ne_zero) ?_ | refine step_u (store_fl S (i := 4) rfl (by simp only [Tryz.FFt1196]) (by first | exact fl_int | exact fl_slice | exact fl_ptr | exact fl_bool | exact fl_map | exact fl_func | exact fl_nili | exact fl_iface | exact fl_nilf | exact fl_str | assumption) (Nat.lt_of_succ_le (Nat.le_of_ble_eq_true rfl)) Nat.one_ne_zero) ?_ | refine step_u (store_fl S (i := 5) rfl (by simp only [Tryz.FFt1196]) (by first | exact fl_int | exact fl_slice | exact fl_ptr | exact fl_bool | exact fl_map | exact fl_func | exact fl_nili | exact fl_iface | exact fl_nilf | exact fl_str | assumption) (Nat.lt_of_succ_le (Nat.le_of_ble_eq_true rfl)) Nat.one_ne_zero) ?_ | refine step_u (store_fl S (i := 6) rfl (by simp only [Tryz.FFt1196]) (by first | exact fl_int | exact fl_slice | exact fl_ptr | exact fl_bool | exact fl_map | exact fl_func | exact fl_nili | exact fl_iface | exact fl_nilf | exact fl_str | assumption) (Nat.lt_of_succ_le (Nat.le_of_ble_eq_true rfl)) Nat.one_ne_zero) ?_ | refine step_u (store_fl S (i := 7) rfl (by simp only [Tryz.FFt1196]) (by first | exact fl_int | exact fl_slice | exact fl_ptr | exact fl_bool | exact fl_map | exact fl_func | exact fl_nili | exact fl_iface | exact fl_nilf | exact fl_str | assumption) (Nat.lt_of_succ_le (Nat.le_of_ble_eq_true rfl)) Nat.one_ne_zero) ?_
  clear S; rintro h ⟨S, mo⟩; replace R1 := R1.mo mo a1; replace R2 := R2.mo mo a2; clear mo; simp only [List.set_cons_zero, List.set_cons_succ, vcells, lay, List.take, List.drop, List.nil_append, List.cons_append, List.append_nil, List.length_cons, List.length_nil, Nat.reduceAdd, Nat.add_zero] at S
  simp only [BS, Nat.reduceLT, Nat.reduceEqDiff, if_true, if_false, Nat.zero_add, eq_self, Tryz.FFt1196]
  first | refine step_u (store_fl S (i := 0) rfl (by simp only [Tryz.FFt1196]) (by first | exact fl_int | exact fl_slice | exact fl_ptr | exact fl_bool | exact fl_map | exact fl_func | exact fl_nili | exact fl_iface | exact fl_nilf | exact fl_str | assumption) (Nat.lt_of_succ_le (Nat.le_of_ble_eq_true rfl)) Nat.one_ne_zero) ?_ | refine step_u (store_fl S (i := 1) rfl (by simp only [Tryz.FFt1196]) (by first | exact fl_int | exact fl_slice | exact fl_ptr | exact fl_bool | exact fl_map | exact fl_func | exact fl_nili | exact fl_iface | exact fl_nilf | exact fl_str | assumption) (Nat.lt_of_succ_le (Nat.le_of_ble_eq_true rfl)) Nat.one_ne_zero) ?_ | refine step_u (store_fl S (i := 2) rfl (by simp only [Tryz.FFt1196]) (by first | exact fl_int | exact fl_slice | exact fl_ptr | exact fl_bool | exact fl_map | exact fl_func | exact fl_nili | exact fl_iface | exact fl_nilf | exact fl_str | assumption) (Nat.lt_of_succ_le (Nat.le_of_ble_eq_true rfl)) Nat.one_ne_zero) ?_ | refine step_u (store_fl S (i := 3) rfl (by simp only [Tryz.FFt1196]) (by first | exact fl_int | exact fl_slice | exact fl_ptr | exact fl_bool | exact fl_map | exact fl_func | exact fl_nili | exact fl_iface | exact fl_nilf | exact fl_str | assumption) (Nat.lt_of_succ_le (Nat.le_of_ble_eq_true rfl)) Nat.one_ne_zero) ?_ | refine step_u (store_fl S (i := 4) rfl (by simp only [Tryz.FFt1196]) (by first | exact fl_int | exact fl_slice | exact fl_ptr | exact fl_bool | exact fl_map | exact fl_func | exact fl_nili | exact fl_iface | exact fl_nilf | exact fl_str | assumption) (Nat.lt_of_succ_le (Nat.le_of_ble_eq_true rfl)) Nat.one_ne_zero) ?_ | refine step_u (store_fl S (i := 5) rfl (by simp only [Tryz.FFt1196]) (by first | exact fl_int | exact fl_slice | exact fl_ptr | exact fl_bool | exact fl_map | exact fl_func | exact fl_nili | exact fl_iface | exact fl_nilf | exact fl_str | assumption) (Nat.lt_of_succ_le (Nat.le_of_ble_eq_true rfl)) Nat.one_ne_zero) ?_ | refine step_u (store_fl S (i := 6) rfl (by simp only [Tryz.FFt1196]) (by first | exact fl_int | exact fl_slice | exact fl_ptr | exact fl_bool | exact fl_map | exact fl_func | exact fl_nili | exact fl_iface | exact fl_nilf | exact fl_str | assumption) (Nat.lt_of_succ_le (Nat.le_of_ble_eq_true rfl)) Nat.one_ne_zero) ?_ | refine step_u (store_fl S (i := 7) rfl (by simp only [Tryz.FFt1196]) (by first | exact fl_int | exact fl_slice | exact fl_ptr | exact fl_bool | exact fl_map | exact fl_func | exact fl_nili | exact fl_iface | exact fl_nilf | exact fl_str | assumption) (Nat.lt_of_succ_le (Nat.le_of_ble_eq_true rfl)) Nat.one_ne_zero) ?_
  clear S; rintro h ⟨S, mo⟩; replace R1 := R1.mo mo a1; replace R2 := R2.mo mo a2; clear mo; simp only [List.set_cons_zero, List.set_cons_succ, vcells, lay, List.take, List.drop, List.nil_append, List.cons_append, List.append_nil, List.length_cons, List.length_nil, Nat.reduceAdd, Nat.add_zero] at S
  simp only [BS, tupleOf, Nat.reduceLT, Nat.reduceEqDiff, if_true, if_false, eq_self]
  exact ⟨S.gr, b2, vx, vy, va, vo, v, rfl, S.row m0, ga.gr S.gr, R1.low (Nat.le_trans hm k1), R2.low (Nat.le_trans hm k2), Nat.le_trans hm n_b2, hz⟩
theorem netNew_ok {h0 : Hp} (ok : h0.t.Sized h0.n) {γ : Gra} (hγ : Good γ) {vx vy va : Value} (ga : GraphAt h0 vx vy va γ) :
    Ret Tryz.abEnv 40 [rawV γ vx vy va] h0 fun r h' => ∃ v, r = .tuple #[v, .nilIface] ∧ Gr h0 h' ∧ NetAt h' h0.n v γ := by
  have S := St.init (M := NoM) ok
  refine enter_ret (n := 17) (rs := [.tmp 2, .tmp 3]) rfl Tryz.e40 rfl rfl rfl (Nat.le_of_ble_eq_true rfl) ?_
  simp only [BS, Nat.reduceLT, rawV]
  refine step_newS (box_new (by intro x e; cases e)) S ?_; clear S; intro h b S n_b; simp only [vcells] at S
  simp only [BS, Nat.reduceLT, Nat.reduceEqDiff, if_true, if_false, List.map_cons, List.map_nil, List.append_nil, List.nil_append, eq_self, Tryz.FFt1140, List.drop_zero, List.take_succ_cons, List.take_zero, S.lds (b := b) (o := 0) (n := 4) (by first | exact m0 | exact m1 | exact m2 | exact m3 | exact m4 | exact m5 | exact m6 | exact m7) (Nat.le_of_ble_eq_true rfl)]
  refine step_pure (check_ok S.ok hγ (ga.gr S.gr)) ?_; intro h g; replace S := S.call g; clear g
  simp only [BS, Nat.reduceLT, Nat.reduceEqDiff, if_true, if_false, List.map_cons, List.map_nil, List.append_nil, List.nil_append, eq_self, Tryz.FFt1140, List.drop_zero, List.take_succ_cons, List.take_zero, S.lds (b := b) (o := 0) (n := 4) (by first | exact m0 | exact m1 | exact m2 | exact m3 | exact m4 | exact m5 | exact m6 | exact m7) (Nat.le_of_ble_eq_true rfl)]
  have k1 := S.fr.n
  refine step_ret (own_ok S.ok hγ (ga.gr S.gr)) ?_; intro v h ⟨g, vx', vy', va', ev, ga', hz⟩; replace S := S.call g; clear g
  subst ev
  simp only [BS, Nat.reduceLT, Nat.reduceEqDiff, if_true, if_false, List.map_cons, List.map_nil, List.append_nil, List.nil_append, eq_self]
  refine step_ret (of_ok S.ok hγ ga' (m := h0.n) S.fr.n (fun c hc => Nat.le_trans k1 (hz c hc))) ?_; intro v h ⟨g, R⟩; replace S := S.call g; clear g
  simp only [BS, tupleOf, Nat.reduceLT, Nat.reduceEqDiff, if_true, if_false, eq_self]
  exact ⟨_, rfl, S.gr, R⟩
end Go.Ab

end
section
/- Names by first appearance. -/
set_option maxHeartbeats 4000000

set_option linter.unusedVariables false
namespace Go.Ab
open Go.Proofs
set_option maxRecDepth 10000
set_option linter.defProp false
def Tryz.FFt12139 := And.intro Tryz.a1 <| And.intro Tryz.s1 <| And.intro Tryz.z1 <| And.intro Tryz.n1 <| And.intro Tryz.u2 <| And.intro Tryz.a2 <| And.intro Tryz.s2 <| And.intro Tryz.z2 <| And.intro Tryz.i2 <| And.intro Tryz.u3 <| And.intro Tryz.a3 <| And.intro Tryz.s3 <| And.intro Tryz.z3 <| And.intro Tryz.i3 <| And.intro Tryz.u4 <| And.intro Tryz.a4 <| And.intro Tryz.s4 <| And.intro Tryz.z4 <| And.intro Tryz.n4 <| And.intro Tryz.u5 <| And.intro Tryz.a5 <| And.intro Tryz.s5 <| And.intro Tryz.z5 <| And.intro Tryz.i5 <| And.intro Tryz.u161 <| And.intro Tryz.a161 <| And.intro Tryz.s161 <| And.intro Tryz.z161 <| Tryz.n161
def Tryz.FFt1299 := And.intro Tryz.a1 <| And.intro Tryz.s1 <| And.intro Tryz.z1 <| And.intro Tryz.n1 <| And.intro Tryz.u2 <| And.intro Tryz.a2 <| And.intro Tryz.s2 <| And.intro Tryz.z2 <| And.intro Tryz.i2 <| And.intro Tryz.u3 <| And.intro Tryz.a3 <| And.intro Tryz.s3 <| And.intro Tryz.z3 <| And.intro Tryz.i3 <| And.intro Tryz.a137 <| And.intro Tryz.s137 <| And.intro Tryz.z137 <| And.intro Tryz.n137 <| And.intro Tryz.u161 <| And.intro Tryz.a161 <| And.intro Tryz.s161 <| And.intro Tryz.z161 <| Tryz.n161
def Tryz.FFt1298 := And.intro Tryz.a1 <| And.intro Tryz.s1 <| And.intro Tryz.z1 <| And.intro Tryz.n1 <| And.intro Tryz.u2 <| And.intro Tryz.a2 <| And.intro Tryz.s2 <| And.intro Tryz.z2 <| And.intro Tryz.i2 <| And.intro Tryz.u3 <| And.intro Tryz.a3 <| And.intro Tryz.s3 <| And.intro Tryz.z3 <| And.intro Tryz.i3 <| And.intro Tryz.u4 <| And.intro Tryz.a4 <| And.intro Tryz.s4 <| And.intro Tryz.z4 <| And.intro Tryz.n4 <| And.intro Tryz.u5 <| And.intro Tryz.a5 <| And.intro Tryz.s5 <| And.intro Tryz.z5 <| And.intro Tryz.i5 <| And.intro Tryz.u6 <| And.intro Tryz.a6 <| And.intro Tryz.s6 <| And.intro Tryz.z6 <| And.intro Tryz.i6 <| And.intro Tryz.u35 <| And.intro Tryz.a35 <| And.intro Tryz.s35 <| And.intro Tryz.z35 <| And.intro Tryz.q35 <| And.intro Tryz.n35 <| And.intro Tryz.a137 <| And.intro Tryz.s137 <| And.intro Tryz.z137 <| Tryz.n137
def pos : List Int → Int → Option Nat
  | [], _ => none
  | y :: ys, x => if x = y then some 0 else (pos ys x).map (· + 1)
def ents : Nat → List Int → List (Value × Value × Nat)
  | _, [] => []
  | o, x :: xs => (.int .i64 x, .int .i64 (o : Nat), o) :: ents (o + 1) xs
theorem ents_app (o : Nat) (l : List Int) (x : Int) : ents o (l ++ [x]) = ents o l ++ [(.int .i64 x, .int .i64 ((o + l.length : Nat) : Int), o + l.length)] := by
  induction l generalizing o with
  | nil => rfl
  | cons y ys ih =>
    show _ :: ents (o + 1) (ys ++ [x]) = _ :: (ents (o + 1) ys ++ _)
    rw [ih, List.length_cons, show o + 1 + ys.length = o + (ys.length + 1) by omega]
theorem ents_len (o : Nat) (l : List Int) : (ents o l).length = l.length := by
  induction l generalizing o with
  | nil => rfl
  | cons y ys ih => show (ents (o + 1) ys).length + 1 = _; rw [ih]; rfl
theorem keq_int {x y : Int} : keyEq (.int .i64 x) (.int .i64 y) = some (decide (x = y)) := by
  show some (ibeq x y) = _
  congr 1
  rw [ibeq_dec]
theorem mfind_ents (o : Nat) (l : List Int) (x : Int) : mfind (.int .i64 x) (ents o l) = some ((pos l x).map fun i => (.int .i64 ((o + i : Nat) : Int), o + i)) := by
  induction l generalizing o with
  | nil => rfl
  | cons y ys ih =>
    show (match keyEq (.int .i64 x) (.int .i64 y) with | none => none | some true => some (some (Value.int .i64 (o : Nat), o)) | some false => mfind (.int .i64 x) (ents (o + 1) ys)) = _
    rw [keq_int, pos]
    by_cases h : x = y
    · rw [if_pos h, decide_eq_true h]; rfl
    · rw [if_neg h, decide_eq_false h]
      show mfind (.int .i64 x) (ents (o + 1) ys) = _
      rw [ih]
      cases pos ys x with
      | none => rfl
      | some i => simp; omega
theorem St.mput {M : Nat → Prop} {h0 h : Hp} {L : List (Nat × Ob)} {G : List GL} (S : St M h0 h L G) {E : Env} {t kt el : TypeId} {i b c : Nat} {es : List (Value × Value × Nat)} {k v : Value} (hi : L[i]? = some (b, .map es c)) (hu : E.und t = some (.map kt el)) (hf : keyFits E kt k = true) (hn : mfind k es = some none) :
    ∃ h', mapPut E h t (.map (some b)) k v = some h' ∧ St M h0 h' (L.set i (b, .map (es ++ [(k, v, c)]) (c + 1))) G := by
  have hg : h.get b = some (.map es c) := (S.own _ (List.mem_of_getElem? hi)).2
  refine ⟨h.put b (.map (es ++ [(k, v, c)]) (c + 1)), ?_, S.put hi ?_⟩
  · simp only [mapPut, mapAt, hu, hf, cond_true, hg, hn]
  · show (h.put b _).get b = _
    rw [Hp.get_put, if_pos ⟨rfl, by rw [hg]; rfl⟩]
theorem lookup_ents {E : Env} {h : Hp} {t kt el : TypeId} {b c : Nat} {l : List Int} {x : Int} (hu : E.und t = some (.map kt el)) (hk : E.und kt = some (.int .i64)) (hz : E.zeroV el = some (.int .i64 0)) (hg : h.get b = some (.map (ents 0 l) c)) :
    lookupV E h t (.map (some b)) (.int .i64 x) true = some (match pos l x with | some i => .tuple #[.int .i64 (i : Nat), .bool true] | none => .tuple #[.int .i64 0, .bool false]) := by
  have hf : keyFits E kt (.int .i64 x) = true := by simp only [keyFits, hk]; rfl
  simp only [lookupV, hu, hf, cond_true, hg, mfind_ents, hz]
  cases pos l x with
  | none => rfl
  | some i => simp
def stepI (ks : List Int) (x : Int) : Nat := match pos ks x with | some i => i | none => ks.length
def stepK (ks : List Int) (x : Int) : List Int := match pos ks x with | some _ => ks | none => ks ++ [x]
def norm : List Int → List Int → List Int
  | _, [] => []
  | ks, x :: xs => (stepI ks x : Int) :: norm (stepK ks x) xs
theorem name_ok {h0 : Hp} (ok : h0.t.Sized h0.n) {bx bm : Nat} {ks : List Int} {x : Int} (hx : Row h0 bx [.map (some bm)] 1) (hm : h0.get bm = some (.map (ents 0 ks) ks.length)) :
    Ret Tryz.abEnv 139 [.int .i64 x, ptrTo bx] h0 fun v h' => Mo (· = bm) h0 h' ∧ v = .int .i64 (stepI ks x) ∧ h'.get bm = some (.map (ents 0 (stepK ks x)) (stepK ks x).length) := by
  have S := St.init1 ok (o := .map (ents 0 ks) ks.length) hm
  have lx := hx.load1 (o := 0) rfl
  have hl := lookup_ents (x := x) Tryz.u161 Tryz.u3 (by kernel_rfl) hm
  have ln : lenQ (some (.map 3 3)) h0 (.map (some bm)) = some (.val (.int .i64 (ents 0 ks).length), h0) := lenq_map hm
  rw [ents_len] at ln
  unfold stepI stepK
  cases hp : pos ks x with
  | some i =>
    rw [hp] at hl
    refine enter_ret (n := 20) (rs := [.tmp 3]) rfl Tryz.e139 rfl rfl rfl (Nat.le_of_ble_eq_true rfl) ?_
    simp only [BS, tupleOf, Nat.reduceLT, Nat.reduceEqDiff, if_true, if_false, true_and, Bool.not_true, eq_self, Tryz.FFt12139, lx, hl]
    exact ⟨S.fr, hm⟩
  | none =>
    rw [hp] at hl
    refine enter_ret (n := 20) (rs := [.tmp 3]) rfl Tryz.e139 rfl rfl rfl (Nat.le_of_ble_eq_true rfl) ?_
    simp only [BS, Nat.reduceLT, Nat.reduceEqDiff, if_true, if_false, Bool.not_false, eq_self, Tryz.FFt12139, lx, hl, ln]
    refine step_u (S.mput (i := 0) rfl Tryz.u161 (by simp only [keyFits, Tryz.u3]; rfl) (by rw [mfind_ents, hp]; rfl)) ?_
    clear S; intro h S
    simp only [List.set_cons_zero] at S
    simp only [BS, tupleOf, Nat.reduceLT, Nat.reduceEqDiff, if_true, if_false, true_and, eq_self]
    have hg : h.get bm = some (.map (ents 0 ks ++ [(.int .i64 x, .int .i64 ks.length, ks.length)]) (ks.length + 1)) := (S.own _ m0).2
    refine ⟨S.fr, ?_⟩
    rw [ents_app, List.length_append, Nat.zero_add]; exact hg
theorem namer_ok {h0 : Hp} (ok : h0.t.Sized h0.n) : Ret Tryz.abEnv 99 [] h0 fun v h' => Gr h0 h' ∧ ∃ bx bm, v = .func (.func 139) #[] #[ptrTo bx] ∧ h0.n ≤ bx ∧ h0.n ≤ bm ∧ Row h' bx [.map (some bm)] 1 ∧ h'.get bm = some (.map [] 0) := by
  have S := St.init (M := NoM) ok
  refine enter_ret (n := 4) (rs := [.tmp 0]) rfl Tryz.e99 rfl rfl rfl (Nat.le_of_ble_eq_true rfl) ?_
  simp only [BS]
  refine step_newS map_new S ?_; clear S; intro h bm S n_bm
  simp only [BS, Tryz.FFt1299]
  refine step_newS allocR_new S ?_; clear S; intro h bx S n_bx
  simp only [BS, Nat.reduceLT, Nat.reduceEqDiff, if_true, if_false, eq_self]
  first | refine step_u (store_fl S (i := 0) rfl (by simp only [Tryz.FFt1299]) (by first | exact fl_int | exact fl_slice | exact fl_ptr | exact fl_bool | exact fl_map | exact fl_func | exact fl_nili | exact fl_iface | exact fl_nilf | exact fl_str | assumption) (Nat.lt_of_succ_le (Nat.le_of_ble_eq_true rfl)) Nat.one_ne_zero) ?_ | refine step_u (store_fl S (i := 1) rfl (by simp only [Tryz.FFt1299]) (by first | exact fl_int | exact fl_slice | exact fl_ptr | exact fl_bool | exact fl_map | exact fl_func | exact fl_nili | exact fl_iface | exact fl_nilf | exact fl_str | assumption) (Nat.lt_of_succ_le (Nat.le_of_ble_eq_true rfl)) Nat.one_ne_zero) ?_ | refine step_u (store_fl S (i := 2) rfl (by simp only [Tryz.FFt1299]) (by first | exact fl_int | exact fl_slice | exact fl_ptr | exact fl_bool | exact fl_map | exact fl_func | exact fl_nili | exact fl_iface | exact fl_nilf | exact fl_str | assumption) (Nat.lt_of_succ_le (Nat.le_of_ble_eq_true rfl)) Nat.one_ne_zero) ?_ | refine step_u (store_fl S (i := 3) rfl (by simp only [Tryz.FFt1299]) (by first | exact fl_int | exact fl_slice | exact fl_ptr | exact fl_bool | exact fl_map | exact fl_func | exact fl_nili | exact fl_iface | exact fl_nilf | exact fl_str | assumption) (Nat.lt_of_succ_le (Nat.le_of_ble_eq_true rfl)) Nat.one_ne_zero) ?_ | refine step_u (store_fl S (i := 4) rfl (by simp only [Tryz.FFt1299]) (by first | exact fl_int | exact fl_slice | exact fl_ptr | exact fl_bool | exact fl_map | exact fl_func | exact fl_nili | exact fl_iface | exact fl_nilf | exact fl_str | assumption) (Nat.lt_of_succ_le (Nat.le_of_ble_eq_true rfl)) Nat.one_ne_zero) ?_ | refine step_u (store_fl S (i := 5) rfl (by simp only [Tryz.FFt1299]) (by first | exact fl_int | exact fl_slice | exact fl_ptr | exact fl_bool | exact fl_map | exact fl_func | exact fl_nili | exact fl_iface | exact fl_nilf | exact fl_str | assumption) (Nat.lt_of_succ_le (Nat.le_of_ble_eq_true rfl)) Nat.one_ne_zero) ?_ | refine step_u (store_fl S (i := 6) rfl (by simp only [Tryz.FFt1299]) (by first | exact fl_int | exact fl_slice | exact fl_ptr | exact fl_bool | exact fl_map | exact fl_func | exact fl_nili | exact fl_iface | exact fl_nilf | exact fl_str | assumption) (Nat.lt_of_succ_le (Nat.le_of_ble_eq_true rfl)) Nat.one_ne_zero) ?_ | refine step_u (store_fl S (i := 7) rfl (by simp only [Tryz.FFt1299]) (by first | exact fl_int | exact fl_slice | exact fl_ptr | exact fl_bool | exact fl_map | exact fl_func | exact fl_nili | exact fl_iface | exact fl_nilf | exact fl_str | assumption) (Nat.lt_of_succ_le (Nat.le_of_ble_eq_true rfl)) Nat.one_ne_zero) ?_
  clear S; rintro h ⟨S, mo⟩; clear mo; simp only [List.set_cons_zero, List.set_cons_succ, vcells, lay, List.take, List.drop, List.nil_append, List.cons_append, List.append_nil, List.length_cons, List.length_nil, Nat.reduceAdd, Nat.add_zero] at S
  simp only [BS, tupleOf, Nat.reduceLT, Nat.reduceEqDiff, if_true, if_false, List.map_cons, List.map_nil, List.map_toArray, eq_self]
  exact ⟨S.gr, bx, bm, rfl, n_bx, n_bm, S.row m0, (S.own _ m1).2⟩
theorem each_ok {h0 : Hp} (ok : h0.t.Sized h0.n) {bx bm : Nat} {ks l : List Int} {v : Value} (hx : Row h0 bx [.map (some bm)] 1) (hm : h0.get bm = some (.map (ents 0 ks) ks.length)) (hv : SlAt h0 1 (encI .i64) v l) (hl : l.length < 1000) :
    Ret Tryz.abEnv 98 [v, .func (.func 139) #[] #[ptrTo bx]] h0 fun r h' => Mo (· = bm) h0 h' ∧ SlAt h' 1 (encI .i64) r (norm ks l) ∧ ∀ c, blkOf r c → h0.n ≤ c := by
  have S := St.init1 ok (o := .map (ents 0 ks) ks.length) hm
  have hvb : ∀ c, blkOf v c → ¬ c = bm := by
    rintro c hc rfl
    rcases hv with ⟨rfl, _⟩ | ⟨b, o, s, c', rfl, _, h3⟩
    · exact hc.elim
    · have : b = c := hc
      subst this
      simp [Hp.load, hm] at h3
  have hxb : ¬ bx = bm := by
    rintro rfl
    obtain ⟨t, el, e, _⟩ := hx
    rw [hm] at e; cases e
  refine enter_ret (n := 21) (rs := [.tmp 4]) rfl Tryz.e98 rfl rfl rfl (Nat.le_of_ble_eq_true rfl) ?_
  simp only [BS, Nat.reduceLT, Nat.reduceEqDiff, if_true, if_false, eq_self, Tryz.FFt1298, hv.lenq]
  replace S := S.nilG (k := 1)
  refine loop_ind (fun (i : Nat) ρ h => i ≤ l.length ∧ ∃ (ks' done : List Int) (vR : Value), norm ks l = done ++ norm ks' (l.drop i) ∧ done.length = i ∧ St (· = bm) h0 h [(bm, .map (ents 0 ks') ks'.length)] [(vR, 1, ints done)] ∧
    ρ 1 = .func (.func 139) #[] #[ptrTo bx] ∧ ρ 4 = vR ∧ ρ 7 = v ∧ ρ 8 = .int .i64 l.length ∧ ρ 9 = .int .i64 i) (fun i => l.length - i) ?_ 0 _ _ ?_
  · clear S
    intro i ih ρ h ⟨hi, ks', done, vR, hn, hd, S, r1, r4, r7, r8, r9⟩
    by_cases hlt : i < l.length
    · obtain ⟨c, o, hidx, hld⟩ := (hv.mo S.fr hvb).ix (kd := .i64) (encI_len .i64) hlt
      have w : wrapI .i64 ((i : Int) + 1) = ((i + 1 : Nat) : Int) := by rw [wrap64] <;> omega
      simp only [BS, Nat.reduceLT, Nat.reduceEqDiff, if_true, if_false, List.map_cons, List.map_nil, List.nil_append, List.cons_append, decide_true, eq_self, Tryz.FFt1298, r1, r4, r7, r8, r9, lt_nat, hlt, hidx, hld, encI]
      refine step_ret (name_ok S.ok (S.fr.has (o := .row _ 1) hx hxb) (S.own _ m0).2) ?_
      rintro r h ⟨f, rfl, hg⟩
      replace S := S.call1 (i := 0) rfl f (o' := .map _ _) hg
      simp only [List.set_cons_zero] at S
      simp only [BS, Nat.reduceLT, Nat.reduceEqDiff, if_true, if_false, List.map_cons, List.map_nil, eq_self]
      refine step_newS (bs_new (by first | exact Tryz.u35) (by first | exact Tryz.e3E) (by decide) (by first | rfl | exact fillE )) S ?_; clear S; intro h bs S n_bs; simp only [repL, setL, vcells, List.cons_append, List.nil_append, List.append_nil, List.set_cons_zero, List.set_cons_succ, Nat.reduceMul, Nat.reduceAdd, Nat.zero_mul, Nat.zero_add, Nat.mul_one, Nat.one_mul] at S
      simp only [BS, Nat.reduceLT, Nat.reduceEqDiff, if_true, if_false, eq_self]
      refine step_v (S.grow (j := 0) (m := 1) (new := ints [(stepI ks' l[i] : Int)]) rfl Tryz.u35 Tryz.e3E (by decide) Tryz.n35 (by simp only [srcCells]; rw [S.lds (b := bs) (o := 0) (n := 1 * 1) m0 (Nat.le_of_ble_eq_true rfl)]; rfl) rfl (by decide) rfl (by rw [ints_len, ints_len]; simp; omega)) ?_
      clear S f hg hld
      rintro h vX' S
      simp only [List.set_cons_zero] at S
      replace S := S.drop1
      rw [← ints_app] at S
      simp only [BS, Nat.reduceLT, Nat.reduceEqDiff, if_true, if_false, eq_self, r9, w]
      refine ih (i + 1) _ _ (by omega) ⟨by omega, _, _, _, ?_, ?_, S, by simp [setR, r1, ptr_eq], by simp [setR], by simp [setR, r7], by simp [setR, r8], by simp [setR]⟩
      · rw [hn, List.drop_eq_getElem_cons hlt, norm, List.append_assoc]; rfl
      · simp [hd]
    · have hiN : i = l.length := by omega
      simp only [BS, tupleOf, Nat.reduceLT, Nat.reduceEqDiff, if_true, if_false, decide_false, eq_self, r4, r8, r9, lt_nat, hlt]
      have e : norm ks l = done := by rw [hn, hiN, List.drop_length, norm, List.append_nil]
      rw [e]
      exact ⟨S.fr, (S.gown _ m0).1.sl rfl (encI_len .i64) (by decide), fun c hc => ((S.gblk m0 hc).1).elim (fun h => h) (fun h => ((S.gblk m0 hc).2 (by simp [h])).elim)⟩
  · exact ⟨Nat.zero_le _, ks, [], _, rfl, rfl, S, by simp [setR, argR_zero, argR_succ, ptr_eq], by simp [setR], by simp [setR, argR_zero], by simp [setR], by simp [setR]⟩
end Go.Ab

end
section
/- Lists of numbers; cells. -/
set_option maxHeartbeats 4000000

set_option linter.unusedVariables false
namespace Go.Ab
open Go.Proofs
set_option maxRecDepth 10000
set_option linter.defProp false
def Tryz.FFt1341 := And.intro Tryz.a1 <| And.intro Tryz.s1 <| And.intro Tryz.z1 <| And.intro Tryz.n1 <| And.intro Tryz.u3 <| And.intro Tryz.a3 <| And.intro Tryz.s3 <| And.intro Tryz.z3 <| And.intro Tryz.i3 <| And.intro Tryz.u35 <| And.intro Tryz.a35 <| And.intro Tryz.s35 <| And.intro Tryz.z35 <| And.intro Tryz.q35 <| And.intro Tryz.n35 <| And.intro Tryz.a137 <| And.intro Tryz.s137 <| And.intro Tryz.z137 <| Tryz.n137
def Tryz.FFt1346 := And.intro Tryz.a1 <| And.intro Tryz.s1 <| And.intro Tryz.z1 <| And.intro Tryz.n1 <| And.intro Tryz.u2 <| And.intro Tryz.a2 <| And.intro Tryz.s2 <| And.intro Tryz.z2 <| And.intro Tryz.i2 <| And.intro Tryz.u3 <| And.intro Tryz.a3 <| And.intro Tryz.s3 <| And.intro Tryz.z3 <| And.intro Tryz.i3 <| And.intro Tryz.u4 <| And.intro Tryz.a4 <| And.intro Tryz.s4 <| And.intro Tryz.z4 <| And.intro Tryz.n4 <| And.intro Tryz.u35 <| And.intro Tryz.a35 <| And.intro Tryz.s35 <| And.intro Tryz.z35 <| And.intro Tryz.q35 <| Tryz.n35
def Tryz.FFt1345 := And.intro Tryz.a1 <| And.intro Tryz.s1 <| And.intro Tryz.z1 <| And.intro Tryz.n1 <| And.intro Tryz.u2 <| And.intro Tryz.a2 <| And.intro Tryz.s2 <| And.intro Tryz.z2 <| And.intro Tryz.i2 <| And.intro Tryz.u3 <| And.intro Tryz.a3 <| And.intro Tryz.s3 <| And.intro Tryz.z3 <| And.intro Tryz.i3 <| And.intro Tryz.u4 <| And.intro Tryz.a4 <| And.intro Tryz.s4 <| And.intro Tryz.z4 <| And.intro Tryz.n4 <| And.intro Tryz.u5 <| And.intro Tryz.a5 <| And.intro Tryz.s5 <| And.intro Tryz.z5 <| And.intro Tryz.i5 <| And.intro Tryz.u6 <| And.intro Tryz.a6 <| And.intro Tryz.s6 <| And.intro Tryz.z6 <| And.intro Tryz.i6 <| And.intro Tryz.a7 <| And.intro Tryz.s7 <| And.intro Tryz.z7 <| And.intro Tryz.i7 <| And.intro Tryz.n7 <| And.intro Tryz.p7 <| And.intro Tryz.ff7 <| And.intro Tryz.d7 <| And.intro Tryz.a8 <| And.intro Tryz.s8 <| And.intro Tryz.z8 <| And.intro Tryz.i8 <| And.intro Tryz.n8 <| And.intro Tryz.p8 <| And.intro Tryz.ff8 <| And.intro Tryz.d8 <| And.intro Tryz.u9 <| And.intro Tryz.a9 <| And.intro Tryz.s9 <| And.intro Tryz.z9 <| And.intro Tryz.n9 <| And.intro Tryz.u35 <| And.intro Tryz.a35 <| And.intro Tryz.s35 <| And.intro Tryz.z35 <| And.intro Tryz.q35 <| Tryz.n35
def Tryz.FFt1347 := And.intro Tryz.a1 <| And.intro Tryz.s1 <| And.intro Tryz.z1 <| And.intro Tryz.n1 <| And.intro Tryz.u2 <| And.intro Tryz.a2 <| And.intro Tryz.s2 <| And.intro Tryz.z2 <| And.intro Tryz.i2 <| And.intro Tryz.u3 <| And.intro Tryz.a3 <| And.intro Tryz.s3 <| And.intro Tryz.z3 <| And.intro Tryz.i3 <| And.intro Tryz.u4 <| And.intro Tryz.a4 <| And.intro Tryz.s4 <| And.intro Tryz.z4 <| And.intro Tryz.n4 <| And.intro Tryz.u5 <| And.intro Tryz.a5 <| And.intro Tryz.s5 <| And.intro Tryz.z5 <| And.intro Tryz.i5 <| And.intro Tryz.u6 <| And.intro Tryz.a6 <| And.intro Tryz.s6 <| And.intro Tryz.z6 <| And.intro Tryz.i6 <| And.intro Tryz.a7 <| And.intro Tryz.s7 <| And.intro Tryz.z7 <| And.intro Tryz.i7 <| And.intro Tryz.n7 <| And.intro Tryz.p7 <| And.intro Tryz.ff7 <| And.intro Tryz.d7 <| And.intro Tryz.a8 <| And.intro Tryz.s8 <| And.intro Tryz.z8 <| And.intro Tryz.i8 <| And.intro Tryz.n8 <| And.intro Tryz.p8 <| And.intro Tryz.ff8 <| And.intro Tryz.d8 <| And.intro Tryz.u9 <| And.intro Tryz.a9 <| And.intro Tryz.s9 <| And.intro Tryz.z9 <| And.intro Tryz.n9 <| And.intro Tryz.a20 <| And.intro Tryz.s20 <| And.intro Tryz.z20 <| And.intro Tryz.q20 <| And.intro Tryz.n20 <| And.intro Tryz.u35 <| And.intro Tryz.a35 <| And.intro Tryz.s35 <| And.intro Tryz.z35 <| And.intro Tryz.q35 <| Tryz.n35
def Tryz.FFt1311 := And.intro Tryz.a1 <| And.intro Tryz.s1 <| And.intro Tryz.z1 <| And.intro Tryz.n1 <| And.intro Tryz.u2 <| And.intro Tryz.a2 <| And.intro Tryz.s2 <| And.intro Tryz.z2 <| And.intro Tryz.i2 <| And.intro Tryz.u3 <| And.intro Tryz.a3 <| And.intro Tryz.s3 <| And.intro Tryz.z3 <| And.intro Tryz.i3 <| And.intro Tryz.u4 <| And.intro Tryz.a4 <| And.intro Tryz.s4 <| And.intro Tryz.z4 <| And.intro Tryz.n4 <| And.intro Tryz.u5 <| And.intro Tryz.a5 <| And.intro Tryz.s5 <| And.intro Tryz.z5 <| And.intro Tryz.i5 <| And.intro Tryz.u6 <| And.intro Tryz.a6 <| And.intro Tryz.s6 <| And.intro Tryz.z6 <| And.intro Tryz.i6 <| And.intro Tryz.u30 <| And.intro Tryz.a30 <| And.intro Tryz.s30 <| And.intro Tryz.z30 <| And.intro Tryz.q30 <| And.intro Tryz.i30 <| And.intro Tryz.n30 <| And.intro Tryz.u35 <| And.intro Tryz.a35 <| And.intro Tryz.s35 <| And.intro Tryz.z35 <| And.intro Tryz.q35 <| And.intro Tryz.n35 <| And.intro Tryz.a97 <| And.intro Tryz.s97 <| And.intro Tryz.z97 <| And.intro Tryz.i97 <| And.intro Tryz.n97 <| And.intro Tryz.p97 <| And.intro Tryz.ff97 <| Tryz.d97
theorem norm_ok {h0 : Hp} (ok : h0.t.Sized h0.n) {l : List Int} {v : Value} (hv : SlAt h0 1 (encI .i64) v l) (hl : l.length < 1000) :
    Ret Tryz.abEnv 41 [v] h0 fun r h' => Gr h0 h' ∧ SlAt h' 1 (encI .i64) r (norm [] l) ∧ ∀ c, blkOf r c → h0.n ≤ c := by
  have S := St.init (M := NoM) ok
  refine enter_ret (n := 6) (rs := [.tmp 2]) rfl Tryz.e41 rfl rfl rfl (Nat.le_of_ble_eq_true rfl) ?_
  simp only [BS, Nat.reduceLT, Nat.reduceEqDiff, if_false, List.map_nil, List.append_nil]
  refine step_ret (namer_ok S.ok) ?_; intro v h ⟨g, bx, bm, ev, n1, n2, R, hg⟩; replace S := S.call g; replace hv := hv.gr g; clear g
  subst ev
  simp only [BS, Nat.reduceLT, Nat.reduceEqDiff, if_true, if_false, List.map_cons, List.map_nil, List.append_nil, List.nil_append, eq_self]
  refine step_ret (each_ok (ks := []) S.ok R hg hv hl) ?_
  rintro r h ⟨f, sl, hc⟩
  simp only [BS, tupleOf, Nat.reduceLT, Nat.reduceEqDiff, if_true, if_false, eq_self]
  exact ⟨(S.fr.trans f (fun i e => .inr (by subst e; exact n2))).gr, sl, fun c h => Nat.le_trans S.fr.n (hc c h)⟩
theorem cloneInt_ok {h0 : Hp} (ok : h0.t.Sized h0.n) {v : Value} {xs : List Int} (hs : SlAt h0 1 (encI .i64) v xs) (hl : xs.length < 1000000) : Ret Tryz.abEnv 46 [v] h0 fun r h' => Gr h0 h' ∧ SlAt h' 1 (encI .i64) r xs ∧ ∀ c, blkOf r c → h0.n ≤ c := by
  have S := St.init (M := NoM) ok
  rcases hs with ⟨rfl, rfl⟩ | ⟨b, o, s, c, rfl, h2, h3⟩
  · refine enter_ret (n := 8) (rs := [.tmp 2]) rfl Tryz.e46 rfl rfl rfl (Nat.le_of_ble_eq_true rfl) ?_
    simp only [BS, tupleOf, Nat.reduceLT, Nat.reduceEqDiff, if_true, if_false, eq_self, Tryz.FFt1346]
    exact ⟨S.gr, .inl ⟨rfl, rfl⟩, fun c hc => hc.elim⟩
  · refine enter_ret (n := 8) (rs := [.tmp 2]) rfl Tryz.e46 rfl rfl rfl (Nat.le_of_ble_eq_true rfl) ?_
    simp only [BS, Nat.reduceLT, Nat.reduceEqDiff, if_true, if_false, List.map_nil, eq_self, Tryz.FFt1346]
    refine step_newS (bs_new (by first | exact Tryz.u35) (by first | exact Tryz.e3E) (by decide) (by first | rfl | exact fillE )) S ?_; clear S; intro h bb S n_bb; simp only [repL, setL, vcells, List.cons_append, List.nil_append, List.append_nil, List.set_cons_zero, List.set_cons_succ, Nat.reduceMul, Nat.reduceAdd, Nat.zero_mul, Nat.zero_add, Nat.mul_one, Nat.one_mul] at S
    simp only [BS, Nat.reduceLT, Nat.reduceEqDiff, if_true, if_false, eq_self]
    refine step_v (S.cloneSl (enc := encI .i64) (xs := []) Tryz.u35 Tryz.e3E (by decide) Tryz.n35 (.inr ⟨b, o, s, c, rfl, h2, S.old h3 (fun h => h)⟩) (fun x => rfl) (by decide) (by simp only [List.length_nil, Nat.zero_add]; omega) (S.row m0)) ?_
    rintro h' v ⟨S', g, sl, hc⟩
    simp only [BS, tupleOf, Nat.reduceLT, Nat.reduceEqDiff, if_true, if_false, eq_self]
    refine ⟨S'.gr, by simpa using sl, fun c h => (hc c h).elim (fun e => by omega) (fun e => Nat.le_trans S.fr.n e)⟩
theorem eqInt_ok {h0 : Hp} (ok : h0.t.Sized h0.n) {u v : Value} {l m : List Int} (hu : SlAt h0 1 (encI .i64) u l) (hv : SlAt h0 1 (encI .i64) v m) (hl : l.length < 1000000) : Pure Tryz.abEnv 45 [u, v] h0 (.bool (decide (l = m))) := by
  have S := St.init (M := NoM) ok
  by_cases hlen : l.length = m.length
  · have hle : ((l.length : Int) = (m.length : Int)) := by omega
    refine enter_ret (n := 26) (rs := [.tmp 4]) rfl Tryz.e45 rfl rfl rfl (Nat.le_of_ble_eq_true rfl) ?_
    simp only [BS, Nat.reduceLT, Nat.reduceEqDiff, if_true, if_false, Bool.not_true, decide_true, eq_self, Tryz.FFt1345, hu.lenq, hv.lenq, hle]
    refine loop_ind (fun (i : Nat) ρ h => i ≤ l.length ∧ l.take i = m.take i ∧ Gr h0 h ∧ ρ 0 = u ∧ ρ 1 = v ∧ ρ 12 = .int .i64 l.length ∧ ρ 13 = .int .i64 i) (fun i => l.length - i) ?_ 0 _ _ ?_
    · clear S
      intro i ih ρ h ⟨hi, ht, S, r0, r1, r12, r13⟩
      by_cases hlt : i < l.length
      · obtain ⟨c, o, hidx, hld⟩ := (hu.gr S).ix (kd := .i64) (encI_len .i64) hlt
        obtain ⟨c2, o2, hidx2, hld2⟩ := (hv.gr S).ix (kd := .i64) (encI_len .i64) (hlen ▸ hlt)
        have w : wrapI .i64 ((i : Int) + 1) = ((i + 1 : Nat) : Int) := by rw [wrap64] <;> omega
        by_cases he : l[i] = m[i]
        · simp only [BS, Nat.reduceLT, Nat.reduceEqDiff, if_true, if_false, decide_true, eq_self, r12, r13, lt_nat, hlt]
          refine draw_step (hoist_no rfl) (q := 0) (ps := []) (by kernel_rfl) ?_
          simp only [BS, cls, Nat.reduceLT, Nat.reduceEqDiff, Nat.reduceAdd, if_true, if_false, Nat.reducePow, Nat.reduceDiv, Nat.reduceMod, Nat.reduceLeDiff, Bool.and_false, Nat.zero_add, true_and, Bool.not_true, decide_true, decide_false, eq_self, Tryz.FFt1345, r0, r1, r13, hidx, hld, hidx2, hld2, encI, he, w]
          refine ih (i + 1) _ _ (by omega) ⟨by omega, ?_, S, by simp [setR, r0], by simp [setR, r1], by simp [setR, r12], by simp [setR]⟩
          rw [List.take_succ_eq_append_getElem hlt, List.take_succ_eq_append_getElem (hlen ▸ hlt), ht, he]
        · have hne : l ≠ m := by rintro rfl; exact he rfl
          simp only [BS, Nat.reduceLT, Nat.reduceEqDiff, if_true, if_false, decide_true, eq_self, r12, r13, lt_nat, hlt]
          refine draw_step (hoist_no rfl) (q := 0) (ps := []) (by kernel_rfl) ?_
          simp only [BS, cls, tupleOf, Nat.reduceLT, Nat.reduceEqDiff, Nat.reduceAdd, if_true, if_false, Nat.reducePow, Nat.reduceDiv, Nat.reduceMod, Nat.reduceLeDiff, Bool.and_false, Nat.zero_add, true_and, Bool.not_false, decide_false, eq_self, Tryz.FFt1345, r0, r1, hidx, hld, hidx2, hld2, encI, he, hne]
          exact S
      · have hE : l = m := by
          have e1 : l.take i = l := List.take_of_length_le (by omega)
          have e2 : m.take i = m := List.take_of_length_le (by omega)
          rw [e1, e2] at ht; exact ht
        subst hE
        simp only [BS, tupleOf, Nat.reduceLT, Nat.reduceEqDiff, if_true, if_false, true_and, decide_true, decide_false, eq_self, r12, r13, lt_nat, hlt]
        exact S
    · exact ⟨Nat.zero_le _, rfl, Gr.refl ok, by simp [setR, argR_zero], by simp [setR, argR_zero, argR_succ], by simp [setR, hlen], by simp [setR]⟩
  · have hne : l ≠ m := by rintro rfl; exact hlen rfl
    have hle : ¬ ((l.length : Int) = (m.length : Int)) := by omega
    refine enter_ret (n := 26) (rs := [.tmp 4]) rfl Tryz.e45 rfl rfl rfl (Nat.le_of_ble_eq_true rfl) ?_
    simp only [BS, tupleOf, Nat.reduceLT, Nat.reduceEqDiff, if_true, if_false, true_and, Bool.not_false, decide_false, eq_self, Tryz.FFt1345, hu.lenq, hv.lenq, hle, hne]
    exact S.gr
def lmax : List Int → Int
  | [] => 0
  | x :: xs => xs.foldl max x
theorem maxInt_ok {h0 : Hp} (ok : h0.t.Sized h0.n) {v : Value} {l : List Int} (hv : SlAt h0 1 (encI .i64) v l) (h1 : 1 ≤ l.length) (hl : l.length < 1000000) : Pure Tryz.abEnv 47 [v] h0 (.int .i64 (lmax l)) := by
  have S := St.init (M := NoM) ok
  obtain ⟨x, xs, rfl⟩ : ∃ x xs, l = x :: xs := by
    cases l with
    | nil => simp at h1
    | cons x xs => exact ⟨x, xs, rfl⟩
  have hnl : ¬ (((x :: xs).length : Int) < 1) := by simp only [List.length_cons]; omega
  obtain ⟨c, o, hidx, hld⟩ := hv.ix (kd := .i64) (encI_len .i64) (i := 0) (by simp)
  have hidx' : idxS (some 1) v (.int .i64 0) = _ := hidx
  refine enter_ret (n := 25) (rs := [.tmp 2]) rfl Tryz.e47 rfl rfl rfl (Nat.le_of_ble_eq_true rfl) ?_
  simp only [BS, Nat.reduceLT, Nat.reduceEqDiff, if_true, if_false, decide_false, eq_self, Tryz.FFt1347, hv.lenq, hnl, hidx', hld, encI]
  refine loop_ind (fun (i : Nat) ρ h => 1 ≤ i ∧ i ≤ (x :: xs).length ∧ Gr h0 h ∧ ρ 0 = v ∧ ρ 3 = .int .i64 (lmax ((x :: xs).take i)) ∧ ρ 4 = .int .i64 i) (fun i => (x :: xs).length - i) ?_ 1 _ _ ?_
  · clear S
    intro i ih ρ h ⟨h1, hi, S, r0, r3, r4⟩
    by_cases hlt : i < (x :: xs).length
    · obtain ⟨c, o, hidx, hld⟩ := (hv.gr S).ix (kd := .i64) (encI_len .i64) hlt
      have w : wrapI .i64 ((i : Int) + 1) = ((i + 1 : Nat) : Int) := by rw [wrap64] <;> omega
      simp only [BS, Nat.reduceLT, Nat.reduceEqDiff, if_true, if_false, decide_true, eq_self, Tryz.FFt1347, r0, r3, r4, (hv.gr S).lenq, lt_nat, hlt, hidx, hld, encI, w]
      refine ih (i + 1) _ _ (by omega) ⟨by omega, by omega, S, by simp [setR, r0], ?_, by simp [setR]⟩
      simp only [setR_at, Nat.reduceEqDiff, reduceIte]
      congr 1
      obtain ⟨j, rfl⟩ : ∃ j, i = j + 1 := ⟨i - 1, by omega⟩
      rw [List.take_succ_cons, List.take_succ_cons, lmax, lmax, List.getElem_cons_succ, List.take_succ_eq_append_getElem (by simpa using hlt), List.foldl_append]
      rfl
    · simp only [BS, tupleOf, Nat.reduceLT, Nat.reduceEqDiff, if_true, if_false, decide_false, eq_self, Tryz.FFt1347, r0, r3, r4, (hv.gr S).lenq, lt_nat, hlt]
      have e : (x :: xs).take i = x :: xs := List.take_of_length_le (by omega)
      rw [e]
      exact ⟨rfl, S⟩
  · exact ⟨Nat.le_refl _, by simp, Gr.refl ok, by simp [setR, argR_zero], by simp [setR, lmax], by simp [setR]⟩
theorem norm_len (ks l : List Int) : (norm ks l).length = l.length := by
  induction l generalizing ks with
  | nil => rfl
  | cons x xs ih => show (norm _ xs).length + 1 = _; rw [ih]; rfl
/-- Cells lie there: each node's cell. n: where its blocks begin. -/
def CellsAt (h : Hp) (n : Nat) (p : Value) (m : List Int) : Prop := ∃ b v, p = ptrTo b ∧ Row h b [v, .int .i64 (lmax m + 1)] 1 ∧ SlAt h 1 (encI .i64) v m ∧ n ≤ b ∧ ∀ c, blkOf v c → n ≤ c
theorem CellsAt.mo {M : Nat → Prop} {h h' : Hp} {n : Nat} {p : Value} {m : List Int} (c : CellsAt h n p m) (g : Mo M h h') (hm : ∀ b, M b → b < n) : CellsAt h' n p m := by
  obtain ⟨b, v, e, r, s, n1, n2⟩ := c
  exact ⟨b, v, e, g.has (o := .row _ 1) r (fun h => by have := hm _ h; omega), s.mo g (fun c hc hM => by have := hm _ hM; have := n2 c hc; omega), n1, n2⟩
theorem CellsAt.gr {h h' : Hp} {n : Nat} {p : Value} {m : List Int} (c : CellsAt h n p m) (g : Gr h h') : CellsAt h' n p m := c.mo (M := NoM) g.fr (fun _ h => h.elim)
def cellNo (m : List Int) : Prop := m = [] ∨ norm [] m ≠ m ∨ 256 < lmax m + 1
theorem cellNew_ok {h0 : Hp} (ok : h0.t.Sized h0.n) {v : Value} {m : List Int} (hv : SlAt h0 1 (encI .i64) v m) (hl : m.length < 1000) (hb : 0 ≤ lmax m ∧ lmax m ≤ 1000000) :
    Ret Tryz.abEnv 11 [v] h0 fun r h' => Gr h0 h' ∧ ((cellNo m ∧ r = .pointer none) ∨ (¬ cellNo m ∧ CellsAt h' h0.n r m)) := by
  have S := St.init (M := NoM) ok
  have ln := norm_len [] m
  by_cases h1 : m = []
  · subst h1
    refine enter_ret (n := 27) (rs := [.tmp 2]) rfl Tryz.e11 rfl rfl rfl (Nat.le_of_ble_eq_true rfl) ?_
    simp only [BS, tupleOf, Nat.reduceLT, Nat.reduceEqDiff, if_true, if_false, List.length_nil, List.getElem?_cons_zero, List.getElem?_cons_succ, Int.cast_ofNat_Int, and_true, Bool.not_true, decide_true, eq_self, Tryz.FFt1311, hv.lenq]
    exact ⟨S.gr, .inl (.inl rfl)⟩
  · have h2 : 1 ≤ m.length := by cases m with
      | nil => exact absurd rfl h1
      | cons a l => simp
    have h3 : ¬ ((m.length : Int) = 0) := by omega
    refine enter_ret (n := 27) (rs := [.tmp 2]) rfl Tryz.e11 rfl rfl rfl (Nat.le_of_ble_eq_true rfl) ?_
    simp only [BS, Nat.reduceLT, Nat.reduceEqDiff, if_true, if_false, List.map_cons, List.map_nil, List.append_nil, List.nil_append, List.getElem?_cons_zero, List.getElem?_cons_succ, Bool.not_false, decide_false, eq_self, Tryz.FFt1311, hv.lenq, h3]
    refine step_ret (norm_ok S.ok hv hl) ?_; intro v h ⟨g, sl, fr⟩; replace S := S.call g; replace hv := hv.gr g; clear g
    by_cases hn : norm [] m = m
    · simp only [BS, Nat.reduceLT, Nat.reduceEqDiff, if_true, if_false, List.map_cons, List.map_nil, List.append_nil, List.nil_append, List.getElem?_cons_zero, List.getElem?_cons_succ, Bool.not_false, eq_self]
      refine step_pure (eqInt_ok S.ok sl hv (by omega)) ?_; intro h g; replace S := S.call g; replace hv := hv.gr g; clear g
      simp only [BS, Nat.reduceLT, Nat.reduceEqDiff, if_true, if_false, List.map_cons, List.map_nil, List.append_nil, List.nil_append, List.getElem?_cons_zero, List.getElem?_cons_succ, Bool.not_true, Bool.not_false, decide_true, eq_self, hn]
      have kc := S.fr.n
      refine step_ret (cloneInt_ok S.ok hv (by omega)) ?_
      intro vc h ⟨g, sl2, fr2⟩; replace S := S.call g; replace hv := hv.gr g; clear g
      have fv : Fl vc := sl2.fl
      simp only [BS, Nat.reduceLT, Nat.reduceEqDiff, if_true, if_false, List.map_cons, List.map_nil, List.append_nil, List.nil_append, eq_self]
      refine step_pure (maxInt_ok S.ok hv h2 (by omega)) ?_; intro h g; replace S := S.call g; replace hv := hv.gr g; replace sl2 := sl2.gr g; clear g
      have w : wrapI .i64 (lmax m + 1) = lmax m + 1 := by rw [wrap64] <;> omega
      have g0 := S.gr
      clear S; have S := St.init (M := NoM) g0.ok
      simp only [BS, Option.isSome_some, Nat.reduceLT, Nat.reduceEqDiff, Nat.reduceAdd, if_true, if_false, List.map_cons, List.map_nil, List.length_cons, List.length_nil, List.set_cons_zero, List.set_cons_succ, List.getElem?_cons_zero, List.getElem?_cons_succ, Nat.zero_add, eq_self, Tryz.FFt1311, w, fv]
      refine step_newS (box_new (by intro x e; cases e)) S ?_; clear S; intro h b S n_b; simp only [vcells] at S
      have lb := S.ld (b := b) (o := 1) m0 rfl
      by_cases hbig : 256 < lmax m + 1
      · simp only [BS, tupleOf, Nat.reduceLT, Nat.reduceEqDiff, if_true, if_false, Nat.zero_add, and_true, decide_true, eq_self, Tryz.FFt1311, hbig, lb]
        exact ⟨g0.trans S.gr, .inl (.inr (.inr hbig))⟩
      · simp only [BS, tupleOf, Nat.reduceLT, Nat.reduceEqDiff, if_true, if_false, Nat.zero_add, decide_false, eq_self, Tryz.FFt1311, hbig, lb]
        exact ⟨g0.trans S.gr, .inr ⟨by rintro (h | h | h) <;> contradiction, b, vc, rfl, S.row m0, sl2.gr S.gr, Nat.le_trans g0.n n_b, fun c hc => Nat.le_trans kc (fr2 c hc)⟩⟩
    · simp only [BS, Nat.reduceLT, Nat.reduceEqDiff, if_true, if_false, List.map_cons, List.map_nil, List.append_nil, List.nil_append, List.getElem?_cons_zero, List.getElem?_cons_succ, Bool.not_false, eq_self]
      refine step_pure (eqInt_ok S.ok sl hv (by omega)) ?_; intro h g; replace S := S.call g; replace hv := hv.gr g; clear g
      simp only [BS, tupleOf, Nat.reduceLT, Nat.reduceEqDiff, if_true, if_false, List.getElem?_cons_zero, List.getElem?_cons_succ, and_true, Bool.not_false, decide_false, eq_self, hn]
      exact ⟨S.gr, .inl (.inr (.inl hn))⟩
end Go.Ab

end
