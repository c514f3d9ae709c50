/- Nets, cells, flags: what the functions do (part 4). -/
import Derived.Test.YtcjpjgegchdfmaaGreatDoorNetC
import Derived.ChangeSlices
import Derived.ChangeArms
import Derived.ChangeSame
import Derived.OpenShut
set_option linter.defProp false
set_option linter.unusedVariables false
set_option linter.unusedSimpArgs false
section
set_option maxHeartbeats 4000000
set_option linter.unusedSimpArgs false
set_option linter.unusedVariables false
namespace Go.Ab
open Go.Proofs
set_option maxRecDepth 10000
set_option linter.defProp false
open Tryz in
def Tryz.FFtb692 := aj a1 <| aj s1 <| aj z1 <| aj n1 <| aj u2 <| aj a2 <| aj s2 <| aj z2 <| aj i2 <| aj u3 <| aj a3 <| aj s3 <| aj z3 <| aj i3 <| aj u4 <| aj a4 <| aj s4 <| aj z4 <| aj n4 <| aj u5 <| aj a5 <| aj s5 <| aj z5 <| aj i5 <| aj u6 <| aj a6 <| aj s6 <| aj z6 <| aj i6 <| aj a7 <| aj s7 <| aj z7 <| aj i7 <| aj n7 <| aj p7 <| aj ff7 <| aj d7 <| aj u24 <| aj a24 <| aj s24 <| aj z24 <| aj q24 <| aj n24 <| aj a102 <| aj s102 <| aj z102 <| n102
open Tryz in
def Tryz.FFtb656 := aj a1 <| aj s1 <| aj z1 <| aj n1 <| aj u2 <| aj a2 <| aj s2 <| aj z2 <| aj i2 <| aj u3 <| aj a3 <| aj s3 <| aj z3 <| aj i3 <| aj u4 <| aj a4 <| aj s4 <| aj z4 <| aj n4 <| aj u24 <| aj a24 <| aj s24 <| aj z24 <| aj q24 <| aj n24 <| aj a102 <| aj s102 <| aj z102 <| n102
open Tryz in
def Tryz.FFtb693 := aj a1 <| aj s1 <| aj z1 <| aj n1 <| aj u2 <| aj a2 <| aj s2 <| aj z2 <| aj i2 <| aj u3 <| aj a3 <| aj s3 <| aj z3 <| aj i3 <| aj u4 <| aj a4 <| aj s4 <| aj z4 <| aj n4 <| aj u5 <| aj a5 <| aj s5 <| aj z5 <| aj i5 <| aj u6 <| aj a6 <| aj s6 <| aj z6 <| aj i6 <| aj a7 <| aj s7 <| aj z7 <| aj i7 <| aj n7 <| aj p7 <| aj ff7 <| aj d7 <| aj u24 <| aj a24 <| aj s24 <| aj z24 <| aj q24 <| aj n24 <| aj u34 <| aj a34 <| aj s34 <| aj z34 <| aj q34 <| aj n34 <| aj a103 <| aj s103 <| aj z103 <| n103
open Tryz in
def Tryz.FFtb659 := aj a1 <| aj s1 <| aj z1 <| aj n1 <| aj u2 <| aj a2 <| aj s2 <| aj z2 <| aj i2 <| aj u3 <| aj a3 <| aj s3 <| aj z3 <| aj i3 <| aj u4 <| aj a4 <| aj s4 <| aj z4 <| aj n4 <| aj u24 <| aj a24 <| aj s24 <| aj z24 <| aj q24 <| aj n24 <| aj u31 <| aj a31 <| aj s31 <| aj z31 <| aj q31 <| aj n31 <| aj u34 <| aj a34 <| aj s34 <| aj z34 <| aj q34 <| aj n34 <| aj a103 <| aj s103 <| aj z103 <| n103
open Tryz in
def Tryz.FFtb623 := aj a1 <| aj s1 <| aj z1 <| aj n1 <| aj u2 <| aj a2 <| aj s2 <| aj z2 <| aj i2 <| aj u3 <| aj a3 <| aj s3 <| aj z3 <| aj i3 <| aj u4 <| aj a4 <| aj s4 <| aj z4 <| aj n4 <| aj u5 <| aj a5 <| aj s5 <| aj z5 <| aj i5 <| aj u24 <| aj a24 <| aj s24 <| aj z24 <| aj q24 <| aj n24 <| aj u31 <| aj a31 <| aj s31 <| aj z31 <| aj q31 <| aj n31 <| aj u32 <| aj a32 <| aj s32 <| aj z32 <| aj q32 <| aj i32 <| aj n32 <| aj u34 <| aj a34 <| aj s34 <| aj z34 <| aj q34 <| aj n34 <| aj a86 <| aj s86 <| aj z86 <| aj i86 <| aj n86 <| aj p86 <| aj ff86 <| aj d86 <| aj a103 <| aj s103 <| aj z103 <| aj n103 <| aj a105 <| aj s105 <| aj z105 <| n105
open Tryz in
def Tryz.FFtb622 := aj a1 <| aj s1 <| aj z1 <| aj n1 <| aj u2 <| aj a2 <| aj s2 <| aj z2 <| aj i2 <| aj u3 <| aj a3 <| aj s3 <| aj z3 <| aj i3 <| aj u4 <| aj a4 <| aj s4 <| aj z4 <| aj n4 <| aj u24 <| aj a24 <| aj s24 <| aj z24 <| aj q24 <| aj n24 <| aj u31 <| aj a31 <| aj s31 <| aj z31 <| aj q31 <| aj n31 <| aj u32 <| aj a32 <| aj s32 <| aj z32 <| aj q32 <| aj i32 <| aj n32 <| aj u34 <| aj a34 <| aj s34 <| aj z34 <| aj q34 <| aj n34 <| aj a86 <| aj s86 <| aj z86 <| aj i86 <| aj n86 <| aj p86 <| aj ff86 <| d86
def RowOk (N : Nat) (l : List Int) : Prop := l.length = N ∧ ∀ x ∈ l, 0 ≤ x ∧ x ≤ 72057594037927936
theorem mk11_ok {h0 : Hp} (ok : h0.t.Sized h0.n) {x : Int} (hx : 0 ≤ x ∧ x ≤ 72057594037927936) : Pure Tryz.abEnv 58 [.int .i64 x] h0 (.bool false) := by
  have S := St.init (M := NoM) ok
  have c1 : ¬ x < 0 := by omega
  have c2 : ¬ 72057594037927936 < x := by omega
  refine enter_ret (n := 9) (rs := [.tmp 2]) rfl Tryz.e58 rfl rfl rfl (Nat.le_of_ble_eq_true rfl) ?_
  simp only [BS, tupleOf, Nat.reduceLT, Nat.reduceEqDiff, if_true, if_false, List.getElem?_cons_zero, List.getElem?_cons_succ, true_and, Bool.not_false, decide_false, eq_self, c1, c2]
  exact S.gr
theorem mkIdx_ok {h0 : Hp} (ok : h0.t.Sized h0.n) {v : Value} {l : List Int} (hv : SlAt h0 1 (encI .i64) v l) (hl : l.length ≤ 1000000) (hx : ∀ x ∈ l, 0 ≤ x ∧ x ≤ 72057594037927936) : Pure Tryz.abEnv 92 [v, .func (.func 58) #[] #[]] h0 (.int .i64 (-1)) := by
  have S := St.init (M := NoM) ok
  refine enter_ret (n := 19) (rs := [.tmp 4]) rfl Tryz.e92 rfl rfl rfl (Nat.le_of_ble_eq_true rfl) ?_
  simp only [BS, Nat.reduceLT, Nat.reduceEqDiff, if_true, if_false, eq_self, Tryz.FFtb692, hv.lenq]
  refine loop_ind (fun (i : Nat) ρ h => i ≤ l.length ∧ Gr h0 h ∧ ρ 0 = v ∧ ρ 1 = .func (.func 58) #[] #[] ∧ ρ 7 = .int .i64 l.length ∧ ρ 8 = .int .i64 i) (fun i => l.length - i) ?_ 0 _ _ ?_
  · clear S
    intro i ih ρ h ⟨hi, S, r0, r1, r7, r8⟩
    by_cases hlt : i < l.length
    · obtain ⟨q, o, hidx, hld⟩ := (hv.gr S).ix (kd := .i64) (encI_len .i64) hlt
      have w : wrapI .i64 ((i : Int) + 1) = ((i + 1 : Nat) : Int) := by rw [wrap64] <;> omega
      simp only [BS, Nat.reduceLT, Nat.reduceEqDiff, if_true, if_false, List.map_cons, List.map_nil, List.append_nil, List.nil_append, decide_true, eq_self, Tryz.FFtb692, r0, r1, r7, r8, lt_nat, hlt, hidx, hld, encI]
      refine step_pure (mk11_ok S.ok (hx _ (List.getElem_mem hlt))) ?_
      intro h' g
      simp only [BS, Nat.reduceLT, Nat.reduceEqDiff, if_true, if_false, eq_self, r8, w]
      exact ih (i + 1) _ _ (by omega) ⟨by omega, S.trans g, by simp [setR, r0], by simp [setR, r1], by simp [setR, r7], by simp [setR]⟩
    · simp only [BS, tupleOf, Nat.reduceLT, Nat.reduceEqDiff, if_true, if_false, true_and, decide_false, eq_self, r7, r8, lt_nat, hlt]
      exact S
  · exact ⟨Nat.zero_le _, Gr.refl ok, by simp [setR, argR_zero], by simp [setR, argR_zero, argR_succ], by simp [setR], by simp [setR]⟩
theorem mkCf_ok {h0 : Hp} (ok : h0.t.Sized h0.n) {v : Value} {l : List Int} (hv : SlAt h0 1 (encI .i64) v l) (hl : l.length ≤ 1000000) (hx : ∀ x ∈ l, 0 ≤ x ∧ x ≤ 72057594037927936) : Pure Tryz.abEnv 57 [v, .func (.func 58) #[] #[]] h0 (.bool false) := by
  have S := St.init (M := NoM) ok
  refine enter_ret (n := 9) (rs := [.tmp 4]) rfl Tryz.e57 rfl rfl rfl (Nat.le_of_ble_eq_true rfl) ?_
  simp only [BS, Nat.reduceLT, Nat.reduceEqDiff, if_true, if_false, List.map_cons, List.map_nil, List.append_nil, List.nil_append, eq_self]
  refine step_pure (mkIdx_ok S.ok hv hl hx) ?_; intro h g; replace S := S.call g; clear g
  simp only [BS, tupleOf, Nat.reduceLT, Nat.reduceEqDiff, if_true, if_false, Int.reduceLE, true_and, decide_false, eq_self]
  exact S.gr
theorem mk1_ok {h0 : Hp} (ok : h0.t.Sized h0.n) {b N : Nat} {v : Value} {l : List Int} (hb : h0.load b 0 1 = some [.int .i64 N]) (hv : SlAt h0 1 (encI .i64) v l) (hl : RowOk N l) (hN : N ≤ 1000000) : Pure Tryz.abEnv 56 [v, ptrTo b] h0 (.bool false) := by
  have S := St.init (M := NoM) ok
  have e := hl.1
  subst e
  refine enter_ret (n := 12) (rs := [.tmp 3]) rfl Tryz.e56 rfl rfl rfl (Nat.le_of_ble_eq_true rfl) ?_
  simp only [BS, Nat.reduceLT, Nat.reduceEqDiff, if_true, if_false, List.map_cons, List.map_nil, List.append_nil, List.nil_append, List.getElem?_cons_zero, List.getElem?_cons_succ, Bool.not_true, Bool.not_false, decide_true, eq_self, Tryz.FFtb656, hv.lenq, hb]
  refine step_pure (mkCf_ok S.ok hv hN hl.2) ?_; intro h g; replace S := S.call g; clear g
  simp only [BS, tupleOf, Nat.reduceLT, Nat.reduceEqDiff, if_true, if_false, true_and, eq_self]
  exact S.gr
theorem mkIdxR_ok {h0 : Hp} (ok : h0.t.Sized h0.n) {b N m n : Nat} {v : Value} {R : Nat → List Int} (hb : h0.load b 0 1 = some [.int .i64 N]) (hv : LLAt h0 m v n R) (hn : n ≤ 1000000) (hR : ∀ i, i < n → RowOk N (R i)) (hN : N ≤ 1000000) : Pure Tryz.abEnv 93 [v, .func (.func 56) #[] #[ptrTo b]] h0 (.int .i64 (-1)) := by
  have S := St.init (M := NoM) ok
  refine enter_ret (n := 19) (rs := [.tmp 4]) rfl Tryz.e93 rfl rfl rfl (Nat.le_of_ble_eq_true rfl) ?_
  simp only [BS, Nat.reduceLT, Nat.reduceEqDiff, if_true, if_false, eq_self, Tryz.FFtb693, hv.lenq]
  refine loop_ind (fun (i : Nat) ρ h => i ≤ n ∧ Gr h0 h ∧ ρ 0 = v ∧ ρ 1 = .func (.func 56) #[] #[ptrTo b] ∧ ρ 7 = .int .i64 n ∧ ρ 8 = .int .i64 i) (fun i => n - i) ?_ 0 _ _ ?_
  · clear S
    intro i ih ρ h ⟨hi, S, r0, r1, r7, r8⟩
    by_cases hlt : i < n
    · obtain ⟨x, ⟨q, o, hidx, hld⟩, hx, _⟩ := (hv.gr S).row hlt
      have fx := hx.fl
      have w : wrapI .i64 ((i : Int) + 1) = ((i + 1 : Nat) : Int) := by rw [wrap64] <;> omega
      simp only [BS, Nat.reduceLT, Nat.reduceEqDiff, if_true, if_false, List.map_cons, List.map_nil, List.nil_append, List.cons_append, decide_true, eq_self, Tryz.FFtb693, r0, r1, r7, r8, lt_nat, hlt, hidx, hld]
      refine step_pure (mk1_ok S.ok (S.load hb) hx (hR i hlt) hN) ?_
      intro h' g
      simp only [BS, Nat.reduceLT, Nat.reduceEqDiff, if_true, if_false, eq_self, r8, w]
      exact ih (i + 1) _ _ (by omega) ⟨by omega, S.trans g, by simp [setR, r0], by simp [setR, r1, ptr_eq], by simp [setR, r7], by simp [setR]⟩
    · simp only [BS, tupleOf, Nat.reduceLT, Nat.reduceEqDiff, if_true, if_false, true_and, decide_false, eq_self, r7, r8, lt_nat, hlt]
      exact S
  · exact ⟨Nat.zero_le _, Gr.refl ok, by simp [setR, argR_zero], by simp [setR, argR_zero, argR_succ, ptr_eq], by simp [setR], by simp [setR]⟩
theorem mkCfR_ok {h0 : Hp} (ok : h0.t.Sized h0.n) {b N m n : Nat} {v : Value} {R : Nat → List Int} (hb : h0.load b 0 1 = some [.int .i64 N]) (hv : LLAt h0 m v n R) (hn : n ≤ 1000000) (hR : ∀ i, i < n → RowOk N (R i)) (hN : N ≤ 1000000) : Pure Tryz.abEnv 60 [v, .func (.func 56) #[] #[ptrTo b]] h0 (.bool false) := by
  have S := St.init (M := NoM) ok
  refine enter_ret (n := 9) (rs := [.tmp 4]) rfl Tryz.e60 rfl rfl rfl (Nat.le_of_ble_eq_true rfl) ?_
  simp only [BS, Nat.reduceLT, Nat.reduceEqDiff, if_true, if_false, List.map_cons, List.map_nil, List.append_nil, List.nil_append, eq_self]
  refine step_pure (mkIdxR_ok S.ok hb hv hn hR hN) ?_; intro h g; replace S := S.call g; clear g
  simp only [BS, tupleOf, Nat.reduceLT, Nat.reduceEqDiff, if_true, if_false, Int.reduceLE, true_and, decide_false, eq_self]
  exact S.gr
theorem mk2_ok {h0 : Hp} (ok : h0.t.Sized h0.n) {b b5 b9 N m n : Nat} {v vM : Value} {l : List Int} {R : Nat → List Int} (h5 : h0.load b5 0 1 = some [vM]) (h9 : h0.load b9 0 1 = some [.func (.func 56) #[] #[ptrTo b]]) (hM : SlAt h0 1 (encI .i64) vM l) (hb : h0.load b 0 1 = some [.int .i64 N]) (hv : LLAt h0 m v n R) (hn : n ≤ 1000000) (hln : l.length = n) (hR : ∀ i, i < n → RowOk N (R i)) (hN : N ≤ 1000000) : Pure Tryz.abEnv 59 [v, ptrTo b5, ptrTo b9] h0 (.bool false) := by
  have S := St.init (M := NoM) ok
  have fM := hM.fl
  subst hln
  refine enter_ret (n := 15) (rs := [.tmp 4]) rfl Tryz.e59 rfl rfl rfl (Nat.le_of_ble_eq_true rfl) ?_
  simp only [BS, Nat.reduceLT, Nat.reduceEqDiff, if_true, if_false, List.map_cons, List.map_nil, List.append_nil, List.nil_append, List.getElem?_cons_zero, List.getElem?_cons_succ, Bool.not_true, Bool.not_false, decide_true, eq_self, Tryz.FFtb659, hv.lenq, hM.lenq, h5, h9]
  refine step_pure (mkCfR_ok S.ok hb hv hn hR hN) ?_; intro h g; replace S := S.call g; clear g
  simp only [BS, tupleOf, Nat.reduceLT, Nat.reduceEqDiff, if_true, if_false, true_and, eq_self]
  exact S.gr
theorem make_ok {h0 : Hp} (ok : h0.t.Sized h0.n) {N mT mF : Nat} {vM vT vF : Value} {l : List Int} {R Q : Nat → List Int} (hM : SlAt h0 1 (encI .i64) vM l) (hT : LLAt h0 mT vT l.length R) (hF : LLAt h0 mF vF l.length Q) (n1 : 1 ≤ N) (hN : N ≤ 100) (hl : MayL N l) (hR : ∀ i, i < l.length → RowOk N (R i)) (hQ : ∀ i, i < l.length → RowOk N (Q i)) :
    Ret Tryz.abEnv 23 [.int .i64 N, vM, vT, vF] h0 fun r h' => Gr h0 h' ∧ TabAt h' h0.n r N l R Q := by
  have S := St.init (M := NoM) ok
  have hl16 := hl.1
  have hlen : l.length < 1000 := by omega
  have c1 : ¬ (N : Int) < 1 := by omega
  have cm : decide (MayL N l) = true := decide_eq_true hl
  have fM := hM.fl
  obtain ⟨ma, mn, mc, rfl⟩ := hM.form
  refine enter_ret (n := 40) (rs := [.tmp 8]) rfl Tryz.e23 rfl rfl rfl (Nat.le_of_ble_eq_true rfl) ?_
  simp only [BS, Nat.reduceLT]
  refine step_newS (box_new (by intro x e; cases e)) S ?_; clear S; intro h b4 S n_b4; simp only [vcells] at S
  simp only [BS, Nat.reduceLT, Nat.reduceEqDiff, if_false]
  refine step_newS (box_new (by intro x e; cases e)) S ?_; clear S; intro h b5 S n_b5; simp only [vcells] at S
  simp only [BS, Nat.reduceLT, Nat.reduceEqDiff, if_true, if_false, List.map_cons, List.map_nil, List.map_toArray, eq_self, Tryz.FFtb623]
  refine step_newS allocR_new S ?_; clear S; intro h b9 S n_b9
  simp only [BS, Nat.reduceLT, Nat.reduceEqDiff, if_true, if_false, eq_self]
  first | refine step_u (store_fl S (i := 0) rfl ?_ ?_ ?_ Nat.one_ne_zero) ?_ | refine step_u (store_fl S (i := 1) rfl ?_ ?_ ?_ Nat.one_ne_zero) ?_ | refine step_u (store_fl S (i := 2) rfl ?_ ?_ ?_ Nat.one_ne_zero) ?_ | refine step_u (store_fl S (i := 3) rfl ?_ ?_ ?_ Nat.one_ne_zero) ?_ | refine step_u (store_fl S (i := 4) rfl ?_ ?_ ?_ Nat.one_ne_zero) ?_ | refine step_u (store_fl S (i := 5) rfl ?_ ?_ ?_ Nat.one_ne_zero) ?_ | refine step_u (store_fl S (i := 6) rfl ?_ ?_ ?_ Nat.one_ne_zero) ?_ | refine step_u (store_fl S (i := 7) rfl ?_ ?_ ?_ Nat.one_ne_zero) ?_
  · exact (by simp only [Tryz.FFtb623])
  · exact (by first | exact fl_int | exact fl_slice | exact fl_ptr | exact fl_bool | exact fl_map | exact fl_func | exact fl_nili | exact fl_iface | exact fl_nilf | exact fl_str | assumption)
  · exact Nat.lt_of_succ_le (Nat.le_of_ble_eq_true rfl)
  clear S; rintro h ⟨S, mo⟩; clear mo; simp only [List.set_cons_zero, List.set_cons_succ, vcells, lay, List.take, List.drop, List.nil_append, List.cons_append, List.append_nil, List.length_cons, List.length_nil, Nat.reduceAdd, Nat.add_zero] at S
  have l4 := S.ld (b := b4) (o := 0) m2 rfl
  have l5 := S.ld (b := b5) (o := 0) m1 rfl
  have l9 := S.ld (b := b9) (o := 0) m0 rfl
  simp only [BS, Nat.reduceLT, Nat.reduceEqDiff, if_true, if_false, List.map_cons, List.map_nil, List.append_nil, List.nil_append, List.getElem?_cons_zero, List.getElem?_cons_succ, List.map_toArray, Bool.not_false, decide_false, eq_self, Tryz.FFtb623, l4, l5, c1]
  refine step_pure (may_ok S.ok (hM.gr S.gr) (by omega)) ?_; intro h g; replace S := S.call g; clear g
  rw [cm]
  simp only [BS, Nat.reduceLT, Nat.reduceEqDiff, if_true, if_false, List.map_cons, List.map_nil, List.nil_append, List.cons_append, List.getElem?_cons_zero, List.getElem?_cons_succ, Bool.not_true, Bool.not_false, eq_self]
  have l4 := S.ld (b := b4) (o := 0) m2 rfl
  have l5 := S.ld (b := b5) (o := 0) m1 rfl
  have l9 := S.ld (b := b9) (o := 0) m0 rfl
  refine step_pure (mk2_ok S.ok l5 l9 (hM.gr S.gr) l4 (hT.gr S.gr) (by omega) rfl hR (by omega)) ?_; intro h g; replace S := S.call g; clear g
  simp only [BS, Nat.reduceLT, Nat.reduceEqDiff, if_true, if_false, List.map_cons, List.map_nil, List.nil_append, List.cons_append, List.getElem?_cons_zero, List.getElem?_cons_succ, Bool.not_false, eq_self]
  have l4 := S.ld (b := b4) (o := 0) m2 rfl
  have l5 := S.ld (b := b5) (o := 0) m1 rfl
  have l9 := S.ld (b := b9) (o := 0) m0 rfl
  refine step_pure (mk2_ok S.ok l5 l9 (hM.gr S.gr) l4 (hF.gr S.gr) (by omega) rfl hQ (by omega)) ?_; intro h g; replace S := S.call g; clear g
  have l4 := S.ld (b := b4) (o := 0) m2 rfl
  have l5 := S.ld (b := b5) (o := 0) m1 rfl
  simp only [BS, Nat.reduceLT, Nat.reduceEqDiff, if_true, if_false, eq_self]
  refine draw_step (hoist_no rfl) (q := 256) (ps := [(0, 6), (0, 4), (0, 2)]) (by kernel_rfl) ?_
  simp only [BS, cls, Nat.reduceLT, Nat.reduceEqDiff, Nat.reduceAdd, if_true, if_false, List.map_cons, List.map_nil, List.append_nil, List.nil_append, Nat.reducePow, Nat.reduceDiv, Nat.reduceMod, Nat.reduceLeDiff, Bool.and_true, Bool.and_false, Nat.zero_add, decide_true, decide_false, eq_self, Tryz.FFtb623, l4, l5]
  refine dn_ret (cloneInt_ok S.ok (encI_len .i64) (hM.gr S.gr) (by omega)) ?_
  rintro v h ⟨g, slM, nM⟩
  have e41 : leaves _ _ b4 = true := leaves_gr g ((S.row (b := b4) m2).lt S.ok)
  have e51 : leaves _ _ b5 = true := leaves_gr g ((S.row (b := b5) m1).lt S.ok)
  have k1 := S.fr.n
  have ky1 := fun c (hc : c ∈ keys _ _) => S.key_lt hc
  replace S := S.call g; clear g
  obtain ⟨va, vn, vc, rfl⟩ := slM.form
  simp only [BS, cls, Nat.reduceLT, Nat.reduceEqDiff, Nat.reduceAdd, if_true, if_false, List.map_cons, List.map_nil, List.append_nil, List.nil_append, Nat.reducePow, Nat.reduceDiv, Nat.reduceMod, Nat.reduceLeDiff, Bool.and_true, Bool.and_false, decide_true, decide_false, eq_self]
  refine dn_ret (copied_ok S.ok (hT.gr S.gr) hlen (fun i hi => by have := (hR i hi).1; omega)) ?_
  rintro v h ⟨g, L1⟩
  have e42 : leaves _ _ b4 = true := leaves_gr g ((S.row (b := b4) m2).lt S.ok)
  have e52 : leaves _ _ b5 = true := leaves_gr g ((S.row (b := b5) m1).lt S.ok)
  have k2 := S.fr.n
  have ky2 := fun c (hc : c ∈ keys _ _) => S.key_lt hc
  replace S := S.call g; replace slM := slM.gr g; clear g
  obtain ⟨ta, tn, tc, rfl⟩ := L1.form
  simp only [BS, cls, Nat.reduceLT, Nat.reduceEqDiff, Nat.reduceAdd, if_true, if_false, List.map_cons, List.map_nil, List.append_nil, List.nil_append, Nat.reducePow, Nat.reduceDiv, Nat.reduceMod, Nat.reduceLeDiff, Bool.and_true, Bool.and_false, decide_true, decide_false, eq_self]
  refine dn_ret (copied_ok S.ok (hF.gr S.gr) hlen (fun i hi => by have := (hQ i hi).1; omega)) ?_
  rintro v h ⟨g, L2⟩
  have e43 : leaves _ _ b4 = true := leaves_gr g ((S.row (b := b4) m2).lt S.ok)
  have e53 : leaves _ _ b5 = true := leaves_gr g ((S.row (b := b5) m1).lt S.ok)
  have k3 := S.fr.n
  have ky3 := fun c (hc : c ∈ keys _ _) => S.key_lt hc
  replace S := S.call g; replace slM := slM.gr g; replace L1 := L1.gr g; clear g
  obtain ⟨fa, fn, fc, rfl⟩ := L2.form
  simp only [BS, Option.isSome_some, cls, Nat.reduceLT, Nat.reduceEqDiff, Nat.reduceAdd, if_true, if_false, List.map_cons, List.map_nil, List.length_cons, List.length_nil, List.set_cons_zero, List.set_cons_succ, List.getElem?_cons_zero, List.getElem?_cons_succ, Nat.reducePow, Nat.reduceDiv, Nat.reduceMod, Nat.reduceLeDiff, Bool.and_true, Bool.and_false, Nat.zero_add, decide_true, decide_false, eq_self, Tryz.FFtb623]
  have Sb := S
  replace S := S.base
  have q4 := (Sb.row (b := b4) m2).lt Sb.ok
  have q5 := (Sb.row (b := b5) m1).lt Sb.ok
  refine dq_newS (box_new (by intro x e; cases e)) S ?_; clear S; intro h b S n_b e_b; simp only [vcells] at S
  have e4b : b4 ≠ b := by omega
  have e5b : b5 ≠ b := by omega
  simp only [BS, cls, tupleOf, Nat.reduceLT, Nat.reduceEqDiff, Nat.reduceAdd, if_true, if_false, Nat.reducePow, Nat.reduceDiv, Nat.reduceMod, Nat.reduceLeDiff, Bool.and_false, decide_false, eq_self]
  refine ⟨by simp only [pairs_cons, pairs_nil, entry_noted, entry_hit, entry_miss, ne_eq, not_false_eq_true, note_load, note_run, note_alloc, noted_some, ll_tmp, ll_put, setR_at, Nat.reduceLT, Nat.reduceEqDiff, reduceIte, Bool.and_true, ptr_eq, pair_br e41, pair_br e42, pair_br e43, pair_br e51, pair_br e52, pair_br e53, pair_bb e4b, pair_bb e5b, ← e_b], ?_⟩
  have f2 := S.fr
  have slM2 := slM.mo f2 (fun c hc hm => by have := nM c hc; have := ky1 c hm; omega)
  have L1' := L1.mo f2 (fun c hm => .inl (ky2 c hm))
  have L2' := L2.mo f2 (fun c hm => .inl (ky3 c hm))
  have hMt := S.row (b := b) m0
  replace S := Sb.rebase S
  exact ⟨S.gr, ⟨b, _, _, _, rfl, hMt, slM2, L1'.ll.low k2, L2'.ll.low k3, (S.own _ m0).1.elim (fun h => h) (fun h => h.elim), fun c hc => Nat.le_trans k1 (nM c hc)⟩⟩
theorem tabRows_ok {h0 : Hp} (ok : h0.t.Sized h0.n) {m N : Nat} {p : Value} {l : List Int} {R Q : Nat → List Int} (t : TabAt h0 m p N l R Q) (hl : l.length < 1000) (hR : ∀ i, i < l.length → (R i).length < 1000000) (hQ : ∀ i, i < l.length → (Q i).length < 1000000) :
    Ret Tryz.abEnv 22 [p] h0 fun r h' => Gr h0 h' ∧ ∃ vT vF k, r = .tuple #[vT, vF] ∧ LLD h' h0.n k vT l.length R ∧ LLD h' k h'.n vF l.length Q ∧ h0.n ≤ k ∧ k ≤ h'.n := by
  have S := St.init (M := NoM) ok
  obtain ⟨b, vM, vT, vF, rfl, hr, _, L1, L2, _⟩ := t.ex
  have l2 := hr.load1 (o := 2) rfl
  refine enter_ret (n := 16) (rs := [.tmp 2, .tmp 3]) rfl Tryz.e22 rfl rfl rfl (Nat.le_of_ble_eq_true rfl) ?_
  simp only [BS, Nat.reduceLT, Nat.reduceEqDiff, if_true, if_false, eq_self, Tryz.FFtb622]
  refine draw_step (hoist_no rfl) (q := 0) (ps := [(4, 8)]) (by kernel_rfl) ?_
  simp only [BS, cls, Nat.reduceLT, Nat.reduceEqDiff, Nat.reduceAdd, if_true, if_false, List.map_cons, List.map_nil, List.append_nil, List.nil_append, Nat.reducePow, Nat.reduceDiv, Nat.reduceMod, Nat.reduceLeDiff, Bool.and_true, Bool.and_false, Nat.zero_add, decide_true, decide_false, eq_self, Tryz.FFtb622, l2]
  refine dn_ret (copied_ok S.ok (L1.gr S.gr) hl hR) ?_
  rintro v h ⟨g, D1⟩
  have k1 := S.fr.n
  have e1 : leaves _ _ b = true := leaves_gr g (hr.lt S.ok)
  replace S := S.call g; replace hr := hr.gr g; clear g
  obtain ⟨ta, tn, tc, rfl⟩ := D1.form
  have l3 := hr.load1 (o := 3) rfl
  simp only [BS, cls, Nat.reduceLT, Nat.reduceEqDiff, Nat.reduceAdd, if_true, if_false, List.map_cons, List.map_nil, List.append_nil, List.nil_append, Nat.reducePow, Nat.reduceDiv, Nat.reduceMod, Nat.reduceLeDiff, Bool.and_true, Bool.and_false, Nat.zero_add, decide_true, decide_false, eq_self, Tryz.FFtb622, l3]
  refine dn_ret (copied_ok S.ok (L2.gr S.gr) hl hQ) ?_
  rintro v h ⟨g, D2⟩
  have k2 := S.fr.n
  have k12 := S.ok
  replace S := S.call g; replace D1 := D1.gr g
  obtain ⟨fa, fn, fc, rfl⟩ := D2.form
  simp only [BS, cls, tupleOf, Nat.reduceLT, Nat.reduceEqDiff, Nat.reduceAdd, if_true, if_false, Nat.reducePow, Nat.reduceDiv, Nat.reduceMod, Nat.reduceLeDiff, Bool.and_false, decide_false, eq_self]
  refine ⟨by simp only [pairs_cons, pairs_nil, entry_noted, entry_hit, entry_miss, ne_eq, not_false_eq_true, note_load, note_run, note_alloc, noted_some, ll_tmp, ll_put, setR_at, Nat.reduceLT, Nat.reduceEqDiff, reduceIte, Bool.and_true, ptr_eq, pair_br e1, pair_rb e1], ?_⟩
  exact ⟨S.gr, _, _, _, rfl, D1, D2, k2, g.n⟩
end Go.Ab

end
section
set_option maxHeartbeats 4000000
set_option linter.unusedSimpArgs false
set_option linter.unusedVariables false
namespace Go.Ab
open Go.Proofs
set_option maxRecDepth 10000
set_option linter.defProp false
open Tryz in
def Tryz.FFtb715 := aj a1 <| aj s1 <| aj z1 <| aj n1 <| aj u2 <| aj a2 <| aj s2 <| aj z2 <| aj i2 <| aj u3 <| aj a3 <| aj s3 <| aj z3 <| aj i3 <| aj u4 <| aj a4 <| aj s4 <| aj z4 <| aj n4 <| aj u5 <| aj a5 <| aj s5 <| aj z5 <| aj i5 <| aj u6 <| aj a6 <| aj s6 <| aj z6 <| aj i6 <| aj a7 <| aj s7 <| aj z7 <| aj i7 <| aj n7 <| aj p7 <| aj ff7 <| aj d7 <| aj a8 <| aj s8 <| aj z8 <| aj i8 <| aj n8 <| aj p8 <| aj ff8 <| aj d8 <| aj u9 <| aj a9 <| aj s9 <| aj z9 <| aj n9 <| aj u10 <| aj a10 <| aj s10 <| aj z10 <| aj n10 <| aj u22 <| aj a22 <| aj s22 <| aj z22 <| aj q22 <| aj n22 <| aj u24 <| aj a24 <| aj s24 <| aj z24 <| aj q24 <| aj n24 <| aj u25 <| aj a25 <| aj s25 <| aj z25 <| aj q25 <| aj n25 <| aj a27 <| aj s27 <| aj z27 <| aj i27 <| aj n27 <| aj p27 <| aj ff27 <| aj d27 <| aj u31 <| aj a31 <| aj s31 <| aj z31 <| aj q31 <| aj n31 <| aj a51 <| aj s51 <| aj z51 <| aj i51 <| aj n51 <| aj p51 <| aj ff51 <| d51
open Tryz in
def Tryz.FFtb75 := aj a1 <| aj s1 <| aj z1 <| aj n1 <| aj u2 <| aj a2 <| aj s2 <| aj z2 <| aj i2 <| aj u3 <| aj a3 <| aj s3 <| aj z3 <| aj i3 <| aj u4 <| aj a4 <| aj s4 <| aj z4 <| aj n4 <| aj u5 <| aj a5 <| aj s5 <| aj z5 <| aj i5 <| aj u6 <| aj a6 <| aj s6 <| aj z6 <| aj i6 <| aj a7 <| aj s7 <| aj z7 <| aj i7 <| aj n7 <| aj p7 <| aj ff7 <| aj d7 <| aj a8 <| aj s8 <| aj z8 <| aj i8 <| aj n8 <| aj p8 <| aj ff8 <| aj d8 <| aj u9 <| aj a9 <| aj s9 <| aj z9 <| aj n9 <| aj u10 <| aj a10 <| aj s10 <| aj z10 <| aj n10 <| aj u11 <| aj a11 <| aj s11 <| aj z11 <| aj n11 <| aj u12 <| aj a12 <| aj s12 <| aj z12 <| aj i12 <| aj a13 <| aj s13 <| aj z13 <| aj i13 <| aj n13 <| aj p13 <| aj ff13 <| aj d13 <| aj a14 <| aj s14 <| aj z14 <| aj i14 <| aj n14 <| aj p14 <| aj ff14 <| aj d14 <| aj u15 <| aj a15 <| aj s15 <| aj z15 <| aj q15 <| aj i15 <| aj n15 <| aj u16 <| aj a16 <| aj s16 <| aj z16 <| aj q16 <| aj i16 <| aj n16 <| aj u17 <| aj a17 <| aj s17 <| aj z17 <| aj q17 <| aj i17 <| aj n17 <| aj a18 <| aj s18 <| aj z18 <| aj i18 <| aj n18 <| aj p18 <| aj ff18 <| aj d18 <| aj a19 <| aj s19 <| aj z19 <| aj i19 <| aj n19 <| aj p19 <| aj ff19 <| aj d19 <| aj a20 <| aj s20 <| aj z20 <| aj q20 <| aj n20 <| aj u21 <| aj a21 <| aj s21 <| aj z21 <| aj i21 <| aj u22 <| aj a22 <| aj s22 <| aj z22 <| aj q22 <| aj n22 <| aj u24 <| aj a24 <| aj s24 <| aj z24 <| aj q24 <| aj n24 <| aj u25 <| aj a25 <| aj s25 <| aj z25 <| aj q25 <| aj n25 <| aj a27 <| aj s27 <| aj z27 <| aj i27 <| aj n27 <| aj p27 <| aj ff27 <| aj d27 <| aj u29 <| aj a29 <| aj s29 <| aj z29 <| aj q29 <| aj i29 <| aj n29 <| aj u31 <| aj a31 <| aj s31 <| aj z31 <| aj q31 <| aj n31 <| aj u32 <| aj a32 <| aj s32 <| aj z32 <| aj q32 <| aj i32 <| aj n32 <| aj u34 <| aj a34 <| aj s34 <| aj z34 <| aj q34 <| aj n34 <| aj a51 <| aj s51 <| aj z51 <| aj i51 <| aj n51 <| aj p51 <| aj ff51 <| aj d51 <| aj u54 <| aj a54 <| aj s54 <| aj z54 <| aj n54 <| aj a86 <| aj s86 <| aj z86 <| aj i86 <| aj n86 <| aj p86 <| aj ff86 <| aj d86 <| aj u126 <| aj a126 <| aj s126 <| aj z126 <| aj q126 <| aj n126 <| aj a128 <| aj s128 <| aj z128 <| aj i128 <| aj n128 <| aj p128 <| aj ff128 <| aj d128 <| aj u199 <| aj a199 <| aj s199 <| aj z199 <| aj i199 <| aj u203 <| aj a203 <| aj s203 <| aj z203 <| aj i203 <| aj a237 <| aj s237 <| aj z237 <| aj i237 <| aj n237 <| aj p237 <| aj ff237 <| aj d237 <| aj u238 <| aj a238 <| aj s238 <| aj z238 <| aj n238 <| aj a240 <| aj s240 <| aj z240 <| aj i240 <| aj n240 <| aj u242 <| aj a242 <| aj s242 <| aj z242 <| aj i242 <| aj a243 <| aj s243 <| aj z243 <| aj n243 <| aj u244 <| aj a244 <| aj s244 <| aj z244 <| aj q244 <| aj i244 <| aj n244 <| aj u245 <| aj a245 <| aj s245 <| aj z245 <| aj i245 <| aj u246 <| aj a246 <| aj s246 <| aj z246 <| aj i246 <| aj a248 <| aj s248 <| aj z248 <| aj i248 <| aj n248 <| aj p248 <| aj ff248 <| d248
theorem LLD.at {h : Hp} {m k n : Nat} {v : Value} {R : Nat → List Int} (r : LLD h m k v n R) {i : Nat} (hi : i < n) (hne : R i ≠ []) :
    ∃ c, (∃ q o, idxS (some 1) v (.int .i64 (i : Nat)) = some (.pointer (some ⟨q, o, none⟩)) ∧ h.load q o 1 = some [.slice (some ⟨c, 0, some 1⟩) (R i).length (R i).length]) ∧ Row h c (ints (R i)) 1 ∧ m ≤ c ∧ c < k ∧
      ∀ h' l', Mo (· = c) h h' → l'.length = (R i).length → Row h' c (ints l') 1 → LLD h' m k v n (fun t => if t = i then l' else R t) := by
  obtain ⟨ws, a, b, c, d, e⟩ := r
  obtain ⟨q, o, e1, e2⟩ := a.ix (kd := .i64) encV_len (i := i) (by omega)
  have hw : ws[i]? = some ws[i] := List.getElem?_eq_getElem (by omega)
  obtain ⟨⟨d1, d2⟩, d3⟩ := d i _ hw
  obtain ⟨cb, ew, row⟩ := d2 hne
  have hcb : blkOf ws[i] cb := by rw [ew]; rfl
  refine ⟨cb, ⟨q, o, e1, by rw [← ew]; exact e2⟩, row, (d3 cb hcb).1, (d3 cb hcb).2.1, fun h' l' mo hl' row' => ⟨ws, a.mo mo (fun x hx e => by subst e; exact (d3 _ hcb).2.2 hx), b, c, fun j w hj => ?_, e⟩⟩
  refine ⟨?_, (d j w hj).2⟩
  show WrI h' w (if j = i then l' else R j)
  by_cases ej : j = i
  · subst ej
    rw [if_pos rfl]
    rw [hw] at hj
    cases hj
    rw [ew]
    refine ⟨.inr ⟨cb, 0, some 1, (R j).length, by rw [hl'], by omega, ?_⟩, fun _ => ⟨cb, by rw [hl'], row'⟩⟩
    rw [row'.load (by rw [ints_len]; omega), List.drop_zero, Nat.mul_one, ← ints_len l', List.take_length]; rfl
  · rw [if_neg ej]
    exact (d j w hj).1.mo mo (fun x hx e2 => by subst e2; exact e j i w ws[i] _ hj hw ej hx hcb)
theorem someW_ok {h0 : Hp} (ok : h0.t.Sized h0.n) {γ : Gra} (hγ : Good γ) {vx vy va vm : Value} {ms : List Int} (hm : SlW h0 .u8 vm ms) (hr : ∀ x ∈ ms, 0 ≤ x ∧ x ≤ 255) (hml : ms.length ≤ 9223372036854775807) (fx : Fl vx) (fy : Fl vy) (fa : Fl va) :
    Ret Tryz.abEnv 15 [rawV γ vx vy va, vm] h0 fun r h' => Gr h0 h' ∧ ∃ l, GHas h' (r, 1, ints l) ∧ MayL γ.nodes l ∧ (∀ c, blkOf r c → h0.n ≤ c) := by
  have S := St.init (M := NoM) ok
  have n1 := hγ.n1
  have n2 := hγ.n2
  refine enter_ret (n := 47) (rs := [.tmp 4]) rfl Tryz.e15 rfl rfl rfl (Nat.le_of_ble_eq_true rfl) ?_
  simp only [BS, Nat.reduceLT, rawV]
  refine step_newS (box_new (by intro x e; cases e)) S ?_; clear S; intro h b2 S n_b2; simp only [vcells] at S
  simp only [BS, Nat.add_zero, Nat.reduceLT, Nat.reduceEqDiff, if_true, if_false, eq_self, Tryz.FFtb715, S.ld (b := b2) (o := 0) (by first | exact m0 | exact m1 | exact m2 | exact m3 | exact m4 | exact m5 | exact m6 | exact m7) rfl]
  refine step_newS (mk_new (by first | exact Tryz.u22 | exact Tryz.u24 | exact Tryz.u25 | exact Tryz.u31) (by first | exact Tryz.e2E | exact Tryz.e3E | exact Tryz.e5E | exact Tryz.e51E) (by omega) (by omega)) S ?_; clear S; intro h bs S n_bs
  rw [Int.toNat_natCast, repL_rep] at S
  replace S := S.nilG (k := 1)
  simp only [BS, Nat.reduceLT, Nat.reduceEqDiff, if_true, if_false, eq_self, Int.toNat_natCast]
  have ez : List.replicate γ.nodes (Value.int .i64 0) = (List.range γ.nodes).map fun v => Value.int .i64 (((fun _ => 0 : Nat → Nat) v : Nat) : Int) := by
    rw [List.map_const', List.length_range]; rfl
  rw [ez] at S
  refine loop_ind (fun (i : Nat) ρ h => i ≤ ms.length ∧ ∃ (vR : Value) (l : List Int) (cnt : Nat → Nat), St NoM h0 h [(bs, .row ((List.range γ.nodes).map fun v => .int .i64 ((cnt v : Nat) : Int)) 1), (b2, .row [.int .i64 γ.nodes, vx, vy, va] 1)] [(vR, 1, ints l)] ∧ MayL γ.nodes l ∧ (∀ v, v < γ.nodes → cnt v ≤ i ∧ (cnt v = 0 ↔ (v : Int) ∉ l)) ∧
    ρ 1 = vm ∧ ρ 2 = ptrTo b2 ∧ ρ 5 = vR ∧ ρ 6 = .slice (some ⟨bs, 0, none⟩) γ.nodes γ.nodes ∧ ρ 7 = .int .i64 i) (fun i => ms.length - i) ?_ 0 _ _ ?_
  · clear S
    intro i ih ρ h ⟨hi, vR, l, cnt, S, hl, hc, r1, r2, r5, r6, r7⟩
    have slR : SlAt h 1 (encI .i64) vR l := (S.gown _ m0).1.sl rfl (fun _ => rfl) (by decide)
    have h16 := hl.1
    have fin : ∀ h', h' = h → (Gr h0 h' ∧ ∃ l, GHas h' (vR, 1, ints l) ∧ MayL γ.nodes l ∧ ∀ (c : Nat), blkOf vR c → h0.n ≤ c) := by
      rintro h' rfl
      exact ⟨S.gr, l, (S.gown _ m0).1, hl, fun c hc => ((S.gblk m0 hc).1).elim (fun h => h) (fun h => h.elim)⟩
    by_cases hlt : i < ms.length
    · by_cases hl16 : l.length < 16
      · have c16 : (l.length : Int) < 16 := by omega
        obtain ⟨c, o, hidx, hld⟩ := (hm.sl.gr S.gr).ix (kd := .i64) (encI_len .u8) hlt
        have hx := hr _ (List.getElem_mem hlt)
        obtain ⟨x, ex⟩ : ∃ x : Nat, ms[i] = x := ⟨ms[i].toNat, by omega⟩
        rw [ex] at hld hx
        have wc : wrapI .i64 (x : Int) = (x : Int) := by rw [wrap64] <;> omega
        have nz : (γ.nodes : Int) ≠ 0 := by omega
        have tm : (x : Int).tmod (γ.nodes : Int) = ((x % γ.nodes : Nat) : Int) := by rw [Int.tmod_eq_emod_of_nonneg (by omega)]; exact (Int.natCast_emod _ _).symm
        have hmod : x % γ.nodes < γ.nodes := Nat.mod_lt _ (by omega)
        have w : wrapI .i64 ((i : Int) + 1) = ((i + 1 : Nat) : Int) := by rw [wrap64] <;> omega
        simp only [BS, Nat.reduceLT, Nat.reduceEqDiff, if_true, if_false, List.getElem?_cons_zero, List.getElem?_cons_succ, decide_true, eq_self, Tryz.FFtb715, r1, r5, r7, hm.sl.lenq, lt_nat, hlt, slR.lenq, c16]
        refine draw_step (hoist_no rfl) (q := 0) (ps := []) (by kernel_rfl) ?_
        simp only [BS, convV, convKind, convP, cls, Nat.add_zero, Nat.reduceLT, Nat.reduceEqDiff, Nat.reduceAdd, if_true, if_false, Nat.reducePow, Nat.reduceDiv, Nat.reduceMod, Nat.reduceLeDiff, Bool.and_false, Nat.zero_add, true_and, decide_false, eq_self, Tryz.FFtb715, r1, r2, r6, r7, hidx, hld, encI, wc, b_rem nz, tm, S.ld (b := b2) (o := 0) (by first | exact m0 | exact m1 | exact m2 | exact m3 | exact m4 | exact m5 | exact m6 | exact m7) rfl]
        generalize x % γ.nodes = v at hmod
        obtain ⟨cle, ciff⟩ := hc v hmod
        have lc := S.ld (b := bs) (o := v) m0 (mapr_at (F := fun v => Value.int .i64 ((cnt v : Nat) : Int)) hmod)
        have w2 : wrapI .i64 ((cnt v : Int) + 1) = ((cnt v + 1 : Nat) : Int) := by rw [wrap64] <;> omega
        have setc : ((List.range γ.nodes).map fun v => Value.int .i64 ((cnt v : Nat) : Int)).set v (.int .i64 ((cnt v + 1 : Nat) : Int)) = (List.range γ.nodes).map fun u => Value.int .i64 (((if u = v then cnt v + 1 else cnt u : Nat) : Nat) : Int) := by
          have := mapr_set (N := γ.nodes) (k := v) (F := fun v => Value.int .i64 ((cnt v : Nat) : Int)) (F' := fun u => Value.int .i64 (((if u = v then cnt v + 1 else cnt u : Nat) : Nat) : Int)) (fun u _ hu => by simp [hu])
          rw [← this]; simp
        by_cases hz : cnt v = 0
        · have hz' : ((cnt v : Nat) : Int) = 0 := by omega
          simp only [BS, Nat.reduceLT, Nat.reduceEqDiff, if_true, if_false, List.map_cons, List.map_nil, Nat.mul_one, Nat.zero_add, decide_true, eq_self, Tryz.FFtb715, r5, hmod, lc, hz']
          refine step_newS (bs_new (by first | exact Tryz.u22 | exact Tryz.u24 | exact Tryz.u25 | exact Tryz.u31) (by first | exact Tryz.e2E | exact Tryz.e3E | exact Tryz.e5E | exact Tryz.e51E) (by decide) (by first | rfl | exact fillE )) S ?_; clear S; intro h bt S n_bt; simp only [repL, setL, vcells, List.cons_append, List.nil_append, List.append_nil, List.set_cons_zero, List.set_cons_succ, Nat.reduceMul, Nat.reduceAdd, Nat.zero_mul, Nat.zero_add, Nat.mul_one, Nat.one_mul] at S
          simp only [BS, Nat.reduceLT, Nat.reduceEqDiff, if_true, if_false, eq_self]
          have src : srcCells h 1 (.slice (some ⟨bt, 0, none⟩) 1 1) = some (1, ints [(v : Int)]) := by simp only [srcCells]; rw [S.lds (b := bt) (o := 0) (n := 1 * 1) m0 (Nat.le_of_ble_eq_true rfl)]; rfl
          replace S := S.drop1
          refine step_v (S.grow (j := 0) (m := 1) (new := ints [(v : Int)]) rfl Tryz.u31 Tryz.e3E (by decide) Tryz.n31 src rfl (by decide) rfl (by rw [ints_len, ints_len]; simp; omega)) ?_
          clear S src slR fin; rintro h vR' S
          simp only [List.set_cons_zero] at S
          rw [← ints_app] at S
          have lc := S.ld (b := bs) (o := v) m0 (mapr_at (F := fun v => Value.int .i64 ((cnt v : Nat) : Int)) hmod)
          simp only [BS, Nat.reduceLT, Nat.reduceEqDiff, if_true, if_false, Nat.mul_one, Nat.zero_add, eq_self, Tryz.FFtb715, r6, hmod, lc, w2]
          refine step_u (store_fl S (i := 0) rfl Tryz.s3 fl_int (by simpa using hmod) Nat.one_ne_zero) ?_
          clear S lc; rintro h ⟨S, _⟩
          simp only [List.set_cons_zero] at S
          rw [setc] at S
          simp only [BS, Nat.reduceLT, Nat.reduceEqDiff, if_true, if_false, eq_self, r7, w]
          refine ih (i + 1) _ _ (by omega) ⟨by omega, _, l ++ [(v : Int)], fun u => if u = v then cnt v + 1 else cnt u, S, hl.push hl16 (by omega) (by omega) (ciff.1 hz), fun u hu => ?_, by simp [setR, r1], by simp [setR, r2, ptr_eq], by simp [setR], by simp [setR, r6], by simp [setR]⟩
          have := hc u hu
          by_cases e : u = v
          · subst e; simp; omega
          · have e' : ¬ ((u : Int) = (v : Int)) := by omega
            simp only [e, if_false, List.mem_append, List.mem_singleton, e', or_false]
            exact ⟨by omega, this.2⟩
        · have hz' : ¬ ((cnt v : Nat) : Int) = 0 := by omega
          simp only [BS, Nat.reduceLT, Nat.reduceEqDiff, if_true, if_false, Nat.mul_one, Nat.zero_add, decide_false, eq_self, Tryz.FFtb715, r6, hmod, lc, hz', w2]
          refine step_u (store_fl S (i := 0) rfl Tryz.s3 fl_int (by simpa using hmod) Nat.one_ne_zero) ?_
          clear S lc slR fin; rintro h ⟨S, _⟩
          simp only [List.set_cons_zero] at S
          rw [setc] at S
          simp only [BS, Nat.reduceLT, Nat.reduceEqDiff, if_true, if_false, eq_self, r7, w]
          refine ih (i + 1) _ _ (by omega) ⟨by omega, _, l, fun u => if u = v then cnt v + 1 else cnt u, S, hl, fun u hu => ?_, by simp [setR, r1], by simp [setR, r2, ptr_eq], by simp [setR, r5], by simp [setR, r6], by simp [setR]⟩
          have := hc u hu
          by_cases e : u = v
          · subst e
            simp only [if_true]
            exact ⟨by omega, by constructor <;> intro h <;> first | omega | exact absurd (this.2.2 h) hz⟩
          · simp only [e, if_false]; exact ⟨by omega, this.2⟩
      · have c16 : ¬ (l.length : Int) < 16 := by omega
        simp only [BS, tupleOf, Nat.reduceLT, Nat.reduceEqDiff, if_true, if_false, List.getElem?_cons_zero, List.getElem?_cons_succ, decide_true, decide_false, eq_self, Tryz.FFtb715, r1, r5, r7, hm.sl.lenq, lt_nat, hlt, slR.lenq, c16]
        exact fin _ rfl
    · simp only [BS, tupleOf, Nat.reduceLT, Nat.reduceEqDiff, if_true, if_false, List.getElem?_cons_zero, List.getElem?_cons_succ, decide_false, eq_self, Tryz.FFtb715, r1, r5, r7, hm.sl.lenq, lt_nat, hlt]
      exact fin _ rfl
  · exact ⟨Nat.zero_le _, _, [], fun _ => 0, S, mayL_nil _, fun v _ => by simp, by simp [setR, argR_zero, argR_succ], by simp [setR, ptr_eq], by simp [setR], by simp [setR], by simp [setR]⟩
theorem rowD_far {B : List Arc} {N s : Nat} (h : ∀ v, dOf B s v ≤ FAR) {x : Int} (hx : x ∈ rowD B N s) : 0 ≤ x ∧ x ≤ 72057594037927936 := by
  unfold rowD at hx
  obtain ⟨v, _, rfl⟩ := List.mem_map.1 hx
  have := h v
  unfold FAR at this
  omega
theorem tableBackLaw_ok {h0 : Hp} (ok : h0.t.Sized h0.n) {vB vm : Value} {B ms : List Int} {a b : Int} (hB : SlW h0 .u8 vB B) (hm : SlW h0 .u8 vm ms) (hr : ∀ x ∈ ms, 0 ≤ x ∧ x ≤ 255) (hml : ms.length ≤ 9223372036854775807) (ha : 0 ≤ a ∧ a ≤ 255) (hb : 0 ≤ b ∧ b ≤ 255) :
    Pure Tryz.abEnv 5 [vB, vm, .agg ⟨[.int .u8 a, .int .u8 b]⟩] h0 (.bool true) := by
  have S := St.init (M := NoM) ok
  have fm := hm.sl.fl
  obtain ⟨a, rfl⟩ := Int.eq_ofNat_of_zero_le ha.1
  obtain ⟨b, rfl⟩ := Int.eq_ofNat_of_zero_le hb.1
  have ip0 : idxP (.int .i64 0) 2 = some 0 := rfl
  have ip1 : idxP (.int .i64 1) 2 = some 1 := rfl
  refine enter_ret (n := 165) (rs := [.tmp 6]) rfl Tryz.e5 rfl rfl rfl (Nat.le_of_ble_eq_true rfl) ?_
  simp only [BS, Nat.reduceLT]
  refine step_newS (box_new (by intro x e; cases e)) S ?_; clear S; intro h bt S n_bt; simp only [vcells] at S
  simp only [BS, List.map_nil, List.append_nil]
  refine step_pure (worksTab_ok S.ok) ?_; intro h g; replace S := S.call g; clear g
  simp only [BS, Nat.reduceLT, Nat.reduceEqDiff, if_true, if_false, List.map_cons, List.map_nil, List.append_nil, List.nil_append, Bool.not_true, eq_self]
  have hB' : SlW h .u8 vB B := hB.imp (fun h => h) (fun ⟨b, o, c, h1, h2, h3⟩ => ⟨b, o, c, h1, h2, S.old h3 (fun h => h)⟩)
  have kyD := fun c (hc : c ∈ keys _ _) => S.key_lt hc
  refine step_ret (drawn_ok S.ok hB') ?_; intro v h ⟨g, γ, vx, vy, va, er, hγ, ga, hz⟩; replace S := S.call g; clear g
  subst er
  have n1 := hγ.n1
  have n2 := hγ.n2
  have fx := ga.X.fl
  have fy := ga.Y.fl
  have fa := ga.A.fl
  have S1 := S
  replace S := S.base
  simp only [BS, Tryz.FFtb75, rawV]
  refine step_newS allocR_new S ?_; clear S; intro h b7 S n_b7
  simp only [BS, Nat.reduceLT, Nat.reduceEqDiff, if_true, if_false, eq_self]
  refine step_u (S.store (i := 0) rfl Tryz.s27 (by intro x e; cases e) rfl (by simp only [vcells, List.all_cons, List.all_nil, fx.2.1, fy.2.1, fa.2.1, Bool.and_true]; rfl) (Nat.le_of_ble_eq_true rfl) Nat.one_ne_zero) ?_
  clear S; rintro h ⟨S, mo⟩
  simp only [List.set_cons_zero, List.set_cons_succ, vcells, lay, List.take, List.drop, List.nil_append, List.cons_append, List.append_nil, List.length_cons, List.length_nil, Nat.reduceAdd, Nat.add_zero] at S
  simp only [BS, Nat.reduceLT, Nat.reduceEqDiff, if_true, if_false, List.map_cons, List.map_nil, List.append_nil, List.nil_append, eq_self, Tryz.FFtb75, List.drop_zero, List.take_succ_cons, List.take_zero, S.lds (b := b7) (o := 0) (n := 4) (by first | exact m0 | exact m1 | exact m2 | exact m3 | exact m4 | exact m5 | exact m6 | exact m7) (Nat.le_of_ble_eq_true rfl)]
  have ga2 : GraphAt h vx vy va γ := ga.mo S.fr (fun c hc e => by have := hz c hc; have := kyD c e; omega)
  replace S := S1.rebase S
  clear S1 mo
  have mk := made_ok S.ok hγ ga2
  unfold rawV at mk
  refine step_ret (mk) ?_; intro v h ⟨g, hp⟩; replace S := S.call g; clear g
  obtain ⟨bp, ep⟩ : ∃ b, v = ptrTo b := by obtain ⟨b, _, _, _, _, _, e, _⟩ := hp.ex; exact ⟨b, e⟩
  subst ep
  simp only [BS, Nat.reduceLT, Nat.reduceEqDiff, if_true, if_false, List.map_cons, List.map_nil, List.append_nil, List.nil_append, eq_self, Tryz.FFtb75, List.drop_zero, List.take_succ_cons, List.take_zero, S.lds (b := b7) (o := 0) (n := 4) (by first | exact m0 | exact m1 | exact m2 | exact m3 | exact m4 | exact m5 | exact m6 | exact m7) (Nat.le_of_ble_eq_true rfl)]
  have hm' : SlW h .u8 vm ms := hm.imp (fun h => h) (fun ⟨b, o, c, h1, h2, h3⟩ => ⟨b, o, c, h1, h2, S.gr.load h3⟩)
  have sm := someW_ok S.ok hγ hm' hr hml fx fy fa
  unfold rawV at sm
  have kyS := fun c (hc : c ∈ keys _ _) => S.key_lt hc
  have okS := S.ok
  have knS := S.fr.n
  refine step_ret sm ?_
  rintro vl h ⟨GS, l, wl0, hl, hlb⟩
  have sl : SlAt h 1 (encI .i64) vl l := wl0.sl rfl (fun _ => rfl) (by decide)
  have wl : WrI h vl l := ⟨sl, fun hne => by
    rcases wl0 with ⟨_, e⟩ | ⟨b, n, e1, e2, e3⟩
    · exact absurd (List.length_eq_zero_iff.1 (by rw [← ints_len l, show ints l = [] from e]; rfl)) hne
    · have en : n = l.length := by rw [← ints_len l, ← show n * 1 = (ints l).length from e2, Nat.mul_one]
      subst en
      exact ⟨b, e1, e3⟩⟩
  replace S := S.call GS
  clear wl0 sm
  simp only [BS, Nat.reduceLT, Nat.reduceEqDiff, if_true, if_false, List.map_cons, List.map_nil, List.append_nil, List.nil_append, eq_self]
  have l16 := hl.1
  have hlc : ∀ c, blkOf vl c → c < h.n := fun c hc => sl.lt S.ok hc
  have kT := Nat.le_trans knS GS.n
  refine step_ret (tabOf_ok S.ok hγ (hp.gr GS) sl (by omega)) ?_
  rintro pt h ⟨g, hT⟩
  replace hT := (hT.resolve_left (fun h => h.1 hl)).2
  have kTR := g.n
  replace S := S.call g; replace sl := sl.gr g; replace wl := wl.gr g; replace GS := GS.trans g; clear g
  have kSR := GS.n
  obtain ⟨bp2, et⟩ : ∃ b, pt = ptrTo b := by obtain ⟨b, _, _, _, e, _⟩ := hT.ex; exact ⟨b, e⟩
  subst et
  simp only [BS, Nat.reduceLT, Nat.reduceEqDiff, if_true, if_false, List.map_cons, List.map_nil, List.append_nil, List.nil_append, eq_self]
  have eT := fun {s : Nat} (hs : s < γ.nodes) (v : Nat) => exTo S.ok hγ (hp.gr GS) hs v
  have eF := fun {s : Nat} (hs : s < γ.nodes) (v : Nat) => exFrom S.ok hγ (hp.gr GS) hs v
  have lR : ∀ i, i < l.length → (toR γ l i).length = γ.nodes := fun i _ => rowD_len _ _ _
  have lQ : ∀ i, i < l.length → (frR γ l i).length = γ.nodes := fun i _ => rowD_len _ _ _
  have hR : ∀ i, i < l.length → RowOk γ.nodes (toR γ l i) := fun i hi => ⟨lR i hi, fun x hx => rowD_far (fun v => (eT (by have := hl.2 i hi; omega) v).le) hx⟩
  have hQ : ∀ i, i < l.length → RowOk γ.nodes (frR γ l i) := fun i hi => ⟨lQ i hi, fun x hx => rowD_far (fun v => (eF (by have := hl.2 i hi; omega) v).le) hx⟩
  have okR := S.ok
  have knR := S.fr.n
  have kyR := fun c (hc : c ∈ keys _ _) => S.key_lt hc
  refine step_ret (tabRows_ok S.ok hT (by omega) (fun i hi => by rw [lR i hi]; omega) (fun i hi => by rw [lQ i hi]; omega)) ?_
  rintro r h ⟨GR, vT, vF, k, er, D1, D2, k0, k1⟩
  subst er
  obtain ⟨Ta, Tn, Tc, rfl⟩ := D1.form
  obtain ⟨Fa, Fn, Fc, rfl⟩ := D2.form
  replace S := S.call GR; replace sl := sl.gr GR; replace wl := wl.gr GR; replace GS := GS.trans GR
  simp only [BS, Nat.add_zero, Nat.reduceLT, Nat.reduceEqDiff, if_true, if_false, List.map_cons, List.map_nil, List.append_nil, List.nil_append, eq_self, Tryz.FFtb75, S.ld (b := b7) (o := 0) (by first | exact m0 | exact m1 | exact m2 | exact m3 | exact m4 | exact m5 | exact m6 | exact m7) rfl]
  refine step_ret (make_ok S.ok sl D1.ll D2.ll n1 (by omega) hl hR hQ) ?_
  rintro pu h ⟨g, hU⟩
  have kU := S.fr.n
  have kUR := GR.n
  have uN := g.n
  replace S := S.call g; replace sl := sl.gr g; replace wl := wl.gr g; replace GS := GS.trans g; replace GR := GR.trans g; replace D1 := D1.gr g; replace D2 := D2.gr g; clear g
  obtain ⟨bu, eu⟩ : ∃ b, pu = ptrTo b := by obtain ⟨b, _, _, _, e, _⟩ := hU.ex; exact ⟨b, e⟩
  subst eu
  have tt : TrueT γ l (toR γ l) (frR γ l) := ⟨fun _ _ => rfl, fun _ _ => rfl⟩
  have dt : Decidable (TrueT γ l (toR γ l) (frR γ l)) := Classical.propDecidable _
  simp only [BS, Nat.reduceLT, Nat.reduceEqDiff, if_true, if_false, List.map_cons, List.map_nil, List.append_nil, List.nil_append, List.getElem?_cons_zero, List.getElem?_cons_succ, Bool.not_false, eq_self, Tryz.FFtb75]
  refine step_pure (tabTrue_ok S.ok hγ (hp.gr GS) hU hl dt) ?_
  intro h g
  rw [decide_eq_true tt]
  replace uN := Nat.le_trans uN g.n; replace S := S.call g; replace sl := sl.gr g; replace wl := wl.gr g; replace GS := GS.trans g; replace GR := GR.trans g; replace D1 := D1.gr g; replace D2 := D2.gr g; replace hU := hU.gr g; clear g
  simp only [BS, Nat.reduceLT, Nat.reduceEqDiff, if_true, if_false, List.map_cons, List.map_nil, List.append_nil, List.nil_append, List.getElem?_cons_zero, List.getElem?_cons_succ, Bool.not_true, Bool.not_false, eq_self]
  refine step_pure (tabTrue_ok S.ok hγ (hp.gr GS) (hT.gr GR) hl dt) ?_
  intro h g
  rw [decide_eq_true tt]
  replace uN := Nat.le_trans uN g.n; replace S := S.call g; replace sl := sl.gr g; replace wl := wl.gr g; replace GS := GS.trans g; replace GR := GR.trans g; replace D1 := D1.gr g; replace D2 := D2.gr g; replace hU := hU.gr g; clear g
  by_cases hl0 : l.length = 0
  · have D1z : LLAt h _ _ 0 _ := hl0 ▸ D1.ll
    have D2z : LLAt h _ _ 0 _ := hl0 ▸ D2.ll
    have slz : ((l.length : Nat) : Int) = 0 := by omega
    simp only [BS, tupleOf, Nat.reduceLT, Nat.reduceEqDiff, if_true, if_false, List.getElem?_cons_zero, List.getElem?_cons_succ, Int.cast_ofNat_Int, true_and, Bool.not_true, Bool.not_false, decide_true, eq_self, Tryz.FFtb75, sl.lenq, slz, D1z.lenq, D2z.lenq]
    exact S.gr
  have lz : ¬ ((l.length : Nat) : Int) = 0 := by omega
  have nz : (γ.nodes : Int) ≠ 0 := by omega
  have wa : wrapI .i64 (a : Int) = (a : Int) := by rw [wrap64] <;> omega
  have wb : wrapI .i64 (b : Int) = (b : Int) := by rw [wrap64] <;> omega
  have ta : (a : Int).tmod (l.length : Int) = ((a % l.length : Nat) : Int) := by rw [Int.tmod_eq_emod_of_nonneg (by omega)]; exact (Int.natCast_emod _ _).symm
  have tb : (b : Int).tmod (γ.nodes : Int) = ((b % γ.nodes : Nat) : Int) := by rw [Int.tmod_eq_emod_of_nonneg (by omega)]; exact (Int.natCast_emod _ _).symm
  have hi : a % l.length < l.length := Nat.mod_lt _ (by omega)
  have hv : b % γ.nodes < γ.nodes := Nat.mod_lt _ (by omega)
  simp only [BS, Nat.reduceLT, Nat.reduceEqDiff, if_true, if_false, List.getElem?_cons_zero, List.getElem?_cons_succ, Bool.not_true, Bool.not_false, decide_false, eq_self, Tryz.FFtb75, sl.lenq, lz]
  refine draw_step (hoist_no rfl) (q := 0) (ps := []) (by kernel_rfl) ?_
  simp only [BS, convV, convKind, convP, cls, Nat.add_zero, Nat.reduceLT, Nat.reduceEqDiff, Nat.reduceAdd, if_true, if_false, Nat.reducePow, Nat.reduceDiv, Nat.reduceMod, Nat.reduceLeDiff, Bool.and_false, Nat.mul_one, Nat.zero_add, true_and, decide_false, eq_self, Tryz.FFtb75, sl.lenq, ip0, ip1, wa, wb, b_rem nz, b_rem lz, ta, tb, S.ld (b := bt) (o := 0) (by first | exact m0 | exact m1 | exact m2 | exact m3 | exact m4 | exact m5 | exact m6 | exact m7) rfl, S.ld (b := bt) (o := 1) (by first | exact m0 | exact m1 | exact m2 | exact m3 | exact m4 | exact m5 | exact m6 | exact m7) rfl, S.ld (b := b7) (o := 0) (by first | exact m0 | exact m1 | exact m2 | exact m3 | exact m4 | exact m5 | exact m6 | exact m7) rfl]
  clear ta tb
  generalize a % l.length = i at hi
  generalize b % γ.nodes = v at hv
  have ipi : ∀ {n}, i < n → idxP (.int .i64 (i : Int)) n = some i := fun h => idxP_nat h
  have ipv : idxP (.int .i64 (v : Int)) γ.nodes = some v := idxP_nat hv
  have ipL : idxP (.int .i64 0) l.length = some 0 := idxP_nat (k := .i64) (i := 0) (by omega)
  have lr := lR i hi
  have lq := lQ i hi
  obtain ⟨c1, ⟨q, o, hidx, hld⟩, row1, q1, q2, up1⟩ := D1.at hi (fun e => by rw [e] at lr; simp at lr; omega)
  rw [lr] at hld
  obtain ⟨x0, ex0⟩ : ∃ x, (toR γ l i).getD v 0 = x := ⟨_, rfl⟩
  have mx0 : x0 ∈ toR γ l i := by
    rw [← ex0, List.getD_eq_getElem?_getD, List.getElem?_eq_getElem (by omega), Option.getD_some]
    exact List.getElem_mem _
  have rx0 := (hR i hi).2 x0 mx0
  have gx : ∀ {l' : List Int} {x}, l'.length = γ.nodes → l'.getD v 0 = x → (ints l')[v]? = some (.int .i64 x) := fun {l' x} h1 h2 => by
    rw [ints_map, List.getElem?_map, ← h2, List.getD_eq_getElem?_getD, List.getElem?_eq_getElem (by omega)]; rfl
  have ld1 := row1.load1 (o := v) (gx lr ex0)
  have w1 : wrapI .i64 (x0 + 1) = x0 + 1 := by rw [wrap64] <;> omega
  have nb : (72057594037927937 : Int) ≠ 0 := by decide
  obtain ⟨x1, ex1⟩ : ∃ x, (x0 + 1).tmod 72057594037927937 = x := ⟨_, rfl⟩
  have rx1 : 0 ≤ x1 ∧ x1 ≤ 72057594037927936 ∧ x1 ≠ x0 := by
    rw [Int.tmod_eq_emod_of_nonneg (by omega)] at ex1
    omega
  simp only [BS, Nat.reduceLT, Nat.reduceEqDiff, if_true, if_false, Nat.mul_one, Nat.zero_add, eq_self, Tryz.FFtb75, hidx, hld, ipv, ld1, w1, b_rem nb, ex1]
  have T := St.init1 S.ok (o := .row (ints (toR γ l i)) 1) row1
  refine step_u (store_fl T (i := 0) rfl Tryz.s2 fl_int (by rw [ints_len]; omega) Nat.one_ne_zero) ?_
  clear T; rintro h ⟨T, mo⟩
  simp only [List.set_cons_zero, ints_set] at T
  replace D1 := up1 h _ mo (by rw [List.length_set]) (T.row m0)
  clear T up1 hidx hld ld1 row1
  replace S := S.step mo (fun c e => by subst e; exact .inr (by omega)) (fun c hc e => by have := kyR c hc; omega)
  replace GS := (GS.fr.trans mo (fun c e => by subst e; exact .inr (by omega)) : Mo NoM _ _).gr
  replace GR := (GR.fr.trans mo (fun c e => by subst e; exact .inr (by omega)) : Mo NoM _ _).gr
  replace D2 := D2.mo mo (fun c e => by subst e; exact .inl q2)
  replace hU := hU.mo mo (fun c e => by subst e; omega)
  replace uN := Nat.le_trans uN mo.n
  replace wl := wl.mo mo (fun c hc e => by subst e; have := hlc c hc; omega)
  replace sl := wl.1
  clear mo
  have hR' : ∀ t, t < l.length → RowOk γ.nodes (if t = i then (toR γ l i).set v x1 else toR γ l t) := fun t ht => by
    split
    · exact ⟨by rw [List.length_set]; exact lr, fun x hx => by
        rcases List.mem_or_eq_of_mem_set hx with h | h
        · exact (hR i hi).2 x h
        · rw [h]; exact ⟨rx1.1, rx1.2.1⟩⟩
    · exact hR t ht
  simp only [BS, Nat.add_zero, Nat.reduceLT, Nat.reduceEqDiff, if_true, if_false, List.map_cons, List.map_nil, List.append_nil, List.nil_append, eq_self, Tryz.FFtb75, S.ld (b := b7) (o := 0) (by first | exact m0 | exact m1 | exact m2 | exact m3 | exact m4 | exact m5 | exact m6 | exact m7) rfl]
  refine step_ret (make_ok S.ok sl D1.ll D2.ll n1 (by omega) hl hR' hQ) ?_
  rintro pw h ⟨g, hW⟩
  have kW := g.n
  have kWR := GR.n
  replace S := S.call g; replace sl := sl.gr g; replace wl := wl.gr g; replace GS := GS.trans g; replace GR := GR.trans g; replace D2 := D2.gr g; replace hU := hU.gr g; clear g
  obtain ⟨bw, ew⟩ : ∃ b, pw = ptrTo b := by obtain ⟨b, _, _, _, e, _⟩ := hW.ex; exact ⟨b, e⟩
  subst ew
  obtain ⟨cl, evl, rowl⟩ := wl.2 (fun e => hl0 (by rw [e]; rfl))
  subst evl
  have nl1 := hlb cl rfl
  have nl2 := hlc cl rfl
  simp only [BS, Nat.add_zero, Nat.reduceLT, Nat.reduceEqDiff, if_true, if_false, Nat.mul_one, eq_self, Tryz.FFtb75, ipL]
  have T := St.init1 S.ok (o := .row (ints l) 1) rowl
  refine step_u (store_fl T (i := 0) rfl Tryz.s3 fl_int (by rw [ints_len]; omega) Nat.one_ne_zero) ?_
  clear T; rintro h ⟨_, mo⟩
  clear wl sl rowl hlb hlc
  replace S := S.step mo (fun c e => by subst e; exact .inr (by omega)) (fun c hc e => by have := kyS c hc; omega)
  replace GS := (GS.fr.trans mo (fun c e => by subst e; exact .inr (by omega)) : Mo NoM _ _).gr
  have MR : Mo (· = cl) _ h := GR.fr.trans mo (fun c e => .inl e)
  replace D2 := D2.mo mo (fun c e => by subst e; exact .inl (by omega))
  replace hU := hU.mo mo (fun c e => by subst e; omega)
  replace hW := hW.mo mo (fun c e => by subst e; omega)
  clear mo GR
  obtain ⟨c2, ⟨q', o', hidx, hld⟩, row2, p1, p2, _⟩ := D2.at hi (fun e => by rw [e] at lq; simp at lq; omega)
  rw [lq] at hld
  simp only [BS, Nat.reduceLT, Nat.reduceEqDiff, if_true, if_false, Nat.mul_one, Nat.zero_add, eq_self, Tryz.FFtb75, hidx, hld, ipv]
  have T := St.init1 S.ok (o := .row (ints (frR γ l i)) 1) row2
  refine step_u (store_fl T (i := 0) rfl Tryz.s2 fl_int (by rw [ints_len]; omega) Nat.one_ne_zero) ?_
  clear T; rintro h ⟨_, mo⟩
  replace S := S.step mo (fun c e => by subst e; exact .inr (by omega)) (fun c hc e => by have := kyR c hc; omega)
  replace GS := (GS.fr.trans mo (fun c e => by subst e; exact .inr (by omega)) : Mo NoM _ _).gr
  replace MR := MR.trans mo (fun c e => by subst e; exact .inr (by omega))
  replace hU := hU.mo mo (fun c e => by subst e; omega)
  replace hW := hW.mo mo (fun c e => by subst e; omega)
  have hT2 := hT.mo MR (fun c e => by subst e; omega)
  clear mo MR D2 D1 hT
  have tw : ¬ TrueT γ l (fun t => if t = i then (toR γ l i).set v x1 else toR γ l t) (frR γ l) := fun h => by
    have e := h.1 i hi
    simp only [if_pos] at e
    have e2 := congrArg (fun l => l.getD v 0) e
    simp only [ex0] at e2
    simp [List.getD_eq_getElem?_getD, List.getElem?_set, show v < (toR γ l i).length by omega] at e2
    omega
  have dw : Decidable (TrueT γ l (fun t => if t = i then (toR γ l i).set v x1 else toR γ l t) (frR γ l)) := Classical.propDecidable _
  have tw1 : tellI γ.nodes l.length (fun t => if t = i then (toR γ l i).set v x1 else toR γ l t) i v = x1 := by
    unfold tellI
    rw [if_pos ⟨by omega, by omega, by omega, by omega⟩, Int.toNat_natCast, Int.toNat_natCast]
    simp [List.getD_eq_getElem?_getD, List.getElem?_set, show v < (toR γ l i).length by omega]
  have tu1 : tellI γ.nodes l.length (toR γ l) i v = x0 := by
    unfold tellI
    rw [if_pos ⟨by omega, by omega, by omega, by omega⟩, Int.toNat_natCast, Int.toNat_natCast]
    exact ex0
  have lR' : ∀ t, t < l.length → (if t = i then (toR γ l i).set v x1 else toR γ l t).length = γ.nodes := fun t ht => (hR' t ht).1
  simp only [BS, Nat.reduceLT, Nat.reduceEqDiff, if_true, if_false, List.map_cons, List.map_nil, List.append_nil, List.nil_append, List.getElem?_cons_zero, List.getElem?_cons_succ, eq_self, Tryz.FFtb75]
  refine step_pure (tabTrue_ok S.ok hγ (hp.gr GS) hW hl dw) ?_
  intro h g
  rw [decide_eq_false tw]
  replace S := S.call g; replace GS := GS.trans g; replace hU := hU.gr g; replace hW := hW.gr g; replace hT2 := hT2.gr g; clear g
  simp only [BS, Nat.reduceLT, Nat.reduceEqDiff, if_true, if_false, List.map_cons, List.map_nil, List.append_nil, List.nil_append, List.getElem?_cons_zero, List.getElem?_cons_succ, Bool.not_false, eq_self]
  refine step_pure (tabTo_ok S.ok hW lR') ?_
  intro h g
  rw [tw1]
  replace S := S.call g; replace GS := GS.trans g; replace hU := hU.gr g; replace hW := hW.gr g; replace hT2 := hT2.gr g; clear g
  simp only [BS, Nat.reduceLT, Nat.reduceEqDiff, if_true, if_false, List.map_cons, List.map_nil, List.append_nil, List.nil_append, List.getElem?_cons_zero, List.getElem?_cons_succ, Bool.not_false, decide_false, eq_self, rx1.2.2]
  refine step_pure (tabTo_ok S.ok hU lR) ?_
  intro h g
  rw [tu1]
  replace S := S.call g; replace GS := GS.trans g; replace hU := hU.gr g; replace hW := hW.gr g; replace hT2 := hT2.gr g; clear g
  simp only [BS, Nat.reduceLT, Nat.reduceEqDiff, if_true, if_false, List.map_cons, List.map_nil, List.append_nil, List.nil_append, List.getElem?_cons_zero, List.getElem?_cons_succ, decide_true, eq_self]
  refine step_pure (tabTo_ok S.ok hT2 lR) ?_
  intro h g
  rw [tu1]
  replace S := S.call g; replace GS := GS.trans g; replace hU := hU.gr g; replace hW := hW.gr g; replace hT2 := hT2.gr g; clear g
  simp only [BS, Nat.reduceLT, Nat.reduceEqDiff, if_true, if_false, List.map_cons, List.map_nil, List.append_nil, List.nil_append, List.getElem?_cons_zero, List.getElem?_cons_succ, decide_true, eq_self]
  refine step_pure (tabTrue_ok S.ok hγ (hp.gr GS) hU hl dt) ?_
  intro h g
  rw [decide_eq_true tt]
  replace S := S.call g; replace GS := GS.trans g; replace hU := hU.gr g; replace hW := hW.gr g; replace hT2 := hT2.gr g; clear g
  simp only [BS, Nat.reduceLT, Nat.reduceEqDiff, if_true, if_false, List.map_cons, List.map_nil, List.append_nil, List.nil_append, List.getElem?_cons_zero, List.getElem?_cons_succ, eq_self]
  refine step_ret (tabMarks_ok S.ok hT2 (by omega)) ?_
  rintro vk h ⟨g, slk, _⟩
  replace S := S.call g; replace GS := GS.trans g; replace hU := hU.gr g; replace hW := hW.gr g; replace hT2 := hT2.gr g; clear g
  obtain ⟨qk, ok2, hidx, hld⟩ := slk.ix (kd := .i64) (encI_len .i64) (i := 0) (by omega)
  have hidx0 : idxS (some 1) vk (.int .i64 0) = some (.pointer (some ⟨qk, ok2, none⟩)) := hidx
  have pos0 : 0 ≤ l[0] := by
    have := (hl.2 0 (by omega)).1
    have gd : l.getD 0 0 = l[0] := by simp [List.getD_eq_getElem?_getD, show 0 < l.length by omega]
    omega
  generalize l[0] = z at hld pos0
  have posd : decide (0 ≤ z) = true := decide_eq_true pos0
  simp only [BS, Nat.reduceLT, Nat.reduceEqDiff, if_true, if_false, List.map_cons, List.map_nil, List.append_nil, List.nil_append, List.getElem?_cons_zero, List.getElem?_cons_succ, eq_self, Tryz.FFtb75, hidx0, hld, encI, posd]
  refine step_pure (tabFrom_ok S.ok hW lQ) ?_
  intro h g
  replace S := S.call g; replace GS := GS.trans g; replace hU := hU.gr g; replace hW := hW.gr g; replace hT2 := hT2.gr g; clear g
  simp only [BS, Nat.reduceLT, Nat.reduceEqDiff, if_true, if_false, List.map_cons, List.map_nil, List.append_nil, List.nil_append, List.getElem?_cons_zero, List.getElem?_cons_succ, eq_self]
  refine step_pure (tabFrom_ok S.ok hT2 lQ) ?_
  intro h g
  replace S := S.call g; clear g
  simp only [BS, tupleOf, Nat.reduceLT, Nat.reduceEqDiff, if_true, if_false, List.getElem?_cons_zero, List.getElem?_cons_succ, true_and, decide_true, eq_self]
  exact S.gr
end Go.Ab

end
section
namespace Go.Ab
open Go.ChangeShapes Go.WideShapes Go.RowKit
theorem rowAt_le {P : Program} {fits : TypeId → Bool} {d : Nat} {e : TypeId} {count off n : Nat} (h : rowAt P fits d e count off n = true) : off ≤ count * P.cellsOf e := by
  cases d with
  | zero => cases h
  | succ d =>
    unfold rowAt at h
    simp only [] at h
    split at h
    · cases h
    · rename_i hs
      have hpos : 0 < P.cellsOf e := by omega
      have hdm := Nat.div_add_mod off (P.cellsOf e)
      simp only [Bool.or_eq_true, Bool.and_eq_true, beq_iff_eq, decide_eq_true_eq] at h
      rcases h with ⟨⟨h1, h2⟩, _⟩ | ⟨h1, _⟩
      · have : P.cellsOf e * (off / P.cellsOf e) ≤ P.cellsOf e * count := Nat.mul_le_mul_left _ (by omega)
        rw [Nat.mul_comm count]; omega
      · have : P.cellsOf e * (off / P.cellsOf e + 1) ≤ P.cellsOf e * count := Nat.mul_le_mul_left _ (by omega)
        have hlt := Nat.mod_lt off hpos
        rw [Nat.mul_add, Nat.mul_one] at this
        rw [Nat.mul_comm count]; omega
theorem liesAt_le {P : Program} {d : Nat} : ∀ {e : TypeId} {count off : Nat} {u : TypeId} {n : Nat}, liesAt P d e count off u n = true → off ≤ count * P.cellsOf e := by
  induction d with
  | zero => intro e count off u n h; cases h
  | succ d ih =>
    intro e count off u n h
    unfold liesAt at h
    rw [Bool.or_eq_true] at h
    rcases h with h | h
    · exact rowAt_le h
    · split at h
      · exact ih h
      · cases h
theorem has_W {P : Program} {W : World} {r : _root_.Go.Reach} {base : Nat} {a : Addr} {e : TypeId} {n : Nat} (h : W.has P r base a e n) : a.spot = none ∧ a.block < W.heap.size ∧ ∃ l, (hpW W).load (a.block + 16) a.off 0 = some l := by
  obtain ⟨_, hsp, row, cells, hsh, hl⟩ := h
  have hle := liesAt_le hl
  have hle2 : a.off ≤ cells := Nat.le_trans hle (Nat.div_mul_le_self _ _)
  unfold World.shape? at hsh
  split at hsh
  next cs el fz ho =>
    cases hsh
    have hlt := (Array.getElem?_eq_some_iff.1 ho).1
    have hr : Row (hpW W) (a.block + 16) (cs.toList.map (absV W.heap.size)) 0 := ⟨_, _, by rw [hpW_at, ho]; rfl, Tr.sized_ofList _, fun j => Tr.get_ofList _ j⟩
    exact ⟨hsp, hlt, _, hr.load (o := a.off) (n := 0) (by simpa using hle2)⟩
  · cases hsh
section
variable {H : Type} {enc : TypeId × Value → H} {P : Program}
theorem open_sl {W : World} {base fuel : Nat} {s e : TypeId} {k : IntKind} {c : Value} {sp : Nat → Bool} {hd : Bool} {x : DataW H × List MemPlace} (hs : P.underlying s = some (.slice e)) (he : P.underlying e = some (.int k)) (hc : P.cellsOf e = 1)
    (hok : Cell.okWide P W .any base s c) (h : DataW.trod enc P W 0 sp hd fuel s [c] = some x) : ∃ zs : List Int, SlW (hpW W) k (absV W.heap.size c) zs ∧ (∀ z ∈ zs, (Lit.int k z).wf = true) ∧ zs.length ≤ 9223372036854775807 := by
  rcases Go.ChangeShapes.open_ints hs he hc h with ⟨e1, _⟩ | ⟨a, len, cap, zs, e1, hb, hl, hm, hz, _, hcell, hwf⟩
  · cases e1
    exact ⟨[], .inl ⟨rfl, rfl⟩, fun z hz => (by cases hz), by simp⟩
  · cases e1
    unfold Cell.okWide at hok
    rw [hs] at hok
    simp only [Cell.ok, hs] at hok
    obtain ⟨hle1, hmax, hhas⟩ := hok
    obtain ⟨hsp, hlt, h0⟩ := has_W hhas
    have hlz : len ≤ zs.length := by rw [hz]; split <;> omega
    refine ⟨zs.take len, .inr ⟨a.block + 16, a.off, cap, ?_, ?_, ?_⟩, fun z hz => hwf z (List.mem_of_mem_take hz), by
      have : (cap : Int) ≤ 9223372036854775807 := hmax
      rw [List.length_take]; omega⟩
    · rw [List.length_take, Nat.min_eq_left hlz]
      simp only [absV, if_pos hl, if_pos (And.intro hsp hlt)]
    · rw [List.length_take, Nat.min_eq_left hlz]; exact hl
    · rw [List.length_take, Nat.min_eq_left hlz, Nat.mul_one]
      rw [load_join (f := fun i => .int k (zs.getD i 0)) h0 (fun i hi => load_W hsp (hcell i (by omega)))]
      congr 1
      have e4 : ∀ l : List Int, l.flatMap (encI k) = l.map fun x => .int k x := fun l => by
        rw [List.flatMap_eq_foldl, List.map_eq_flatMap, List.flatMap_eq_foldl]; rfl
      rw [e4]
      refine List.ext_getElem? fun i => ?_
      rw [List.getElem?_map, List.getElem?_map, List.getElem?_take]
      by_cases hi : i < len
      · rw [if_pos hi, List.getElem?_range hi, List.getElem?_eq_getElem (show i < zs.length by omega)]
        simp [List.getD_eq_getElem?_getD, show i < zs.length by omega]
      · rw [if_neg hi, List.getElem?_eq_none (by simpa using hi)]; rfl
theorem open_slV {W : World} {base : Nat} {s e : TypeId} {k : IntKind} {v : Value} {sp : Nat → Bool} {hd : Bool} {d : DataW H} {p : List MemPlace} (hs : P.underlying s = some (.slice e)) (he : P.underlying e = some (.int k)) (hc : P.cellsOf e = 1)
    (hval : Value.okWide P W .any base s v) (h : DataW.Trod enc P W 0 sp hd s v d p) : ∃ zs : List Int, SlW (hpW W) k (absA W.heap.size v) zs ∧ (∀ z ∈ zs, (Lit.int k z).wf = true) ∧ zs.length ≤ 9223372036854775807 := by
  unfold Value.okWide at hval
  rw [hs] at hval
  obtain ⟨fuel, h⟩ := h
  have hc0 : ∀ l : Array Value, v ≠ .agg l := by
    rintro l rfl
    simp only [Cell.okWide, hs, Cell.ok] at hval
  have hcs : v.cells.toList = [v] := by cases v <;> first | rfl | exact absurd rfl (hc0 _)
  rw [hcs] at h
  have ha : absA W.heap.size v = absV W.heap.size v := by cases v <;> first | rfl | exact absurd rfl (hc0 _)
  rw [ha]
  exact open_sl hs he hc hval h
theorem open_sl2 {W : World} {base : Nat} {t s e : TypeId} {k : IntKind} {f0 f1 : Field} {v : Value} {sp : Nat → Bool} {hd : Bool} {d : DataW H} {p : List MemPlace} (ht : P.underlying t = some (.struct #[f0, f1])) (o0 : f0.offset = 0) (o1 : f1.offset = 1) (t0 : f0.type = s) (t1 : f1.type = s)
    (hs : P.underlying s = some (.slice e)) (he : P.underlying e = some (.int k)) (hc : P.cellsOf e = 1) (hcs : P.cellsOf s = 1) (hct : P.cellsOf t = 2) (hts : P.cellTypes P.depth t = some [s, s])
    (hval : Value.okWide P W .any base t v) (h : DataW.Trod enc P W 0 sp hd t v d p) :
    ∃ (c0 c1 : Value) (xs ys : List Int), v = .agg #[c0, c1] ∧ SlW (hpW W) k (absV W.heap.size c0) xs ∧ SlW (hpW W) k (absV W.heap.size c1) ys ∧ (∀ z ∈ xs, (Lit.int k z).wf = true) ∧ ∀ z ∈ ys, (Lit.int k z).wf = true := by
  unfold Value.okWide at hval
  rw [ht] at hval
  obtain ⟨cs, rfl, hsz, ts, e1, _, hrow⟩ := hval
  rw [hts] at e1
  cases e1
  rw [hct] at hsz
  obtain ⟨l⟩ := cs
  simp only [List.size_toArray] at hsz
  obtain ⟨c0, c1, rfl⟩ := len2 hsz
  obtain ⟨fuel, h⟩ := h
  obtain ⟨y0, y1, n, _, _, h1, h2⟩ := Go.ChangeShapes.trod_struct2 ht h
  rw [o0, t0, hcs] at h1
  rw [o1, t1, hcs] at h2
  obtain ⟨u0, e0, k0⟩ := hrow 0 c0 rfl
  obtain ⟨u1, e1, k1⟩ := hrow 1 c1 rfl
  cases e0
  cases e1
  obtain ⟨xs, hx, wx, _⟩ := open_sl hs he hc k0 h1
  obtain ⟨ys, hy, wy, _⟩ := open_sl hs he hc k1 h2
  exact ⟨c0, c1, xs, ys, rfl, hx, hy, wx, wy⟩
end
end Go.Ab

end
section
namespace Go.Ab
open Go.ChangeShapes Go.WideShapes Go.RowKit
section
variable {H : Type} {enc : TypeId × Value → H} {P : Program}
theorem open_arr2 {W : World} {base : Nat} {t e : TypeId} {k : IntKind} {v : Value} {sp : Nat → Bool} {hd : Bool} {d : DataW H} {p : List MemPlace} (ht : P.underlying t = some (.array 2 e)) (he : P.underlying e = some (.int k)) (hce : P.cellsOf e = 1) (hct : P.cellsOf t = 2)
    (hval : Value.okWide P W .any base t v) (h : DataW.Trod enc P W 0 sp hd t v d p) : ∃ x y : Int, v = .agg #[.int k x, .int k y] ∧ (Lit.int k x).wf = true ∧ (Lit.int k y).wf = true := by
  unfold Value.okWide at hval
  rw [ht] at hval
  obtain ⟨cs, rfl, hsz, _⟩ := hval
  rw [hct] at hsz
  obtain ⟨l⟩ := cs
  simp only [List.size_toArray] at hsz
  obtain ⟨a, b, rfl⟩ : ∃ a b, l = [a, b] := by
    match l, hsz with
    | [a, b], _ => exact ⟨a, b, rfl⟩
  obtain ⟨fuel, h⟩ := h
  obtain ⟨xs, m, _, _, _, hlen, hf⟩ := DataW.trod_array ht h
  obtain ⟨y0, y1, rfl⟩ : ∃ a b, xs = [a, b] := by
    match xs, hlen with
    | [a, b], _ => exact ⟨a, b, rfl⟩
  have q0 := hf 0 (by decide)
  have q1 := hf 1 (by decide)
  rw [hce] at q0 q1
  obtain ⟨x, e0, _, w0⟩ := DataW.trod_int he q0
  obtain ⟨y, e1, _, w1⟩ := DataW.trod_int he q1
  cases e0
  cases e1
  exact ⟨x, y, rfl, w0, w1⟩
end
end Go.Ab

end
