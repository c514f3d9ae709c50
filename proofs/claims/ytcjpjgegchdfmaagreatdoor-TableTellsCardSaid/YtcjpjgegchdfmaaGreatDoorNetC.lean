/- Nets, cells, flags: what the functions do (part 3). -/
import Derived.Test.YtcjpjgegchdfmaaGreatDoorNetB
set_option maxHeartbeats 4000000
set_option linter.defProp false
set_option linter.unusedVariables false
set_option linter.unusedSimpArgs false
section
namespace Go.Ab
open Go.Proofs
set_option maxRecDepth 10000
open Tryz in
def Tryz.FFf283 := aj a1 <| aj s1 <| aj z1 <| aj n1 <| aj u2 <| aj a2 <| aj s2 <| aj z2 <| aj i2 <| aj u3 <| aj a3 <| aj s3 <| aj z3 <| aj i3 <| aj u4 <| aj a4 <| aj s4 <| aj z4 <| aj n4 <| aj u5 <| aj a5 <| aj s5 <| aj z5 <| aj i5 <| aj u6 <| aj a6 <| aj s6 <| aj z6 <| aj i6 <| aj a7 <| aj s7 <| aj z7 <| aj i7 <| aj n7 <| aj p7 <| aj ff7 <| aj d7 <| aj a8 <| aj s8 <| aj z8 <| aj i8 <| aj n8 <| aj p8 <| aj ff8 <| aj d8 <| aj u9 <| aj a9 <| aj s9 <| aj z9 <| aj n9 <| aj u10 <| aj a10 <| aj s10 <| aj z10 <| aj n10 <| aj a20 <| aj s20 <| aj z20 <| aj q20 <| aj n20 <| aj u24 <| aj a24 <| aj s24 <| aj z24 <| aj q24 <| aj n24 <| aj u169 <| aj a169 <| aj s169 <| aj z169 <| i169
open Tryz in
def Tryz.FFf284 := aj a1 <| aj s1 <| aj z1 <| aj n1 <| aj u2 <| aj a2 <| aj s2 <| aj z2 <| aj i2 <| aj u3 <| aj a3 <| aj s3 <| aj z3 <| aj i3 <| aj u4 <| aj a4 <| aj s4 <| aj z4 <| aj n4 <| aj u5 <| aj a5 <| aj s5 <| aj z5 <| aj i5 <| aj u6 <| aj a6 <| aj s6 <| aj z6 <| aj i6 <| aj a7 <| aj s7 <| aj z7 <| aj i7 <| aj n7 <| aj p7 <| aj ff7 <| aj d7 <| aj a8 <| aj s8 <| aj z8 <| aj i8 <| aj n8 <| aj p8 <| aj ff8 <| aj d8 <| aj u9 <| aj a9 <| aj s9 <| aj z9 <| aj n9 <| aj u10 <| aj a10 <| aj s10 <| aj z10 <| aj n10 <| aj a20 <| aj s20 <| aj z20 <| aj q20 <| aj n20 <| aj u31 <| aj a31 <| aj s31 <| aj z31 <| aj q31 <| aj n31 <| aj u169 <| aj a169 <| aj s169 <| aj z169 <| i169
theorem rep64_ok {h0 : Hp} (ok : h0.t.Sized h0.n) {v : Value} {x : Int} {N : Nat} (hv : SlAt h0 1 (encI .i64) v [x]) (h1 : 1 ≤ N) (hN : N < 1000) : Ret Tryz.abEnv 83 [v, .int .i64 N] h0 fun r h' => Gr h0 h' ∧ ∃ b, r = .slice (some ⟨b, 0, none⟩) N N ∧ h0.n ≤ b ∧ Row h' b (List.replicate N (.int .i64 x)) 1 := by
  have S := St.init (M := NoM) ok
  have c1 : ¬ ((N : Int) < 0) := by omega
  have c2 : ¬ ((9223372036854775807 : Int) < (N : Int)) := by omega
  have wn : wrapI .u64 (N : Int) = (N : Int) := wrapUn (by omega) (by omega)
  have w1 : wrapI .u64 1 = 1 := rfl
  have wm : wrapI .i64 (N : Int) = (N : Int) := by rw [wrap64] <;> omega
  obtain ⟨bx, ox, sx, cx, rfl, hcx, hx⟩ : ∃ b o s c, v = .slice (some ⟨b, o, s⟩) 1 c ∧ 1 ≤ c ∧ h0.load b o 1 = some [.int .i64 x] := by
    rcases hv with ⟨_, h⟩ | ⟨b, o, s, c, rfl, h2, h3⟩
    · cases h
    · exact ⟨b, o, s, c, rfl, h2, h3⟩
  refine enter_ret (n := 48) (rs := [.tmp 4]) rfl Tryz.e83 rfl rfl rfl (lbt rfl) ?_
  simp only [BS, LB, convV, convKind, convP, Nat.reduceLT, Nat.reduceEqDiff, Int.cast_ofNat_Int, Tryz.FFf283, c1, wn, w1]
  refine step_pure (mul_ok S.ok hN) ?_; intro h g; replace S := S.call g; clear g
  simp only [BS, LB, convV, convKind, convP, Nat.reduceLT, Nat.reduceEqDiff, Int.reduceLT, Tryz.FFf283, c2, wm]
  refine step_newS (mk_new (by first | exact Tryz.u24) (by first | exact Tryz.e2E) (by omega) (by omega)) S ?_; clear S; intro h bb S n_bb
  rw [Int.toNat_natCast, repL_rep] at S
  simp only [BS, LB, Nat.reduceLT, Nat.reduceEqDiff, Int.toNat_natCast]
  refine step_v (S.copyO (i := 0) (l := List.replicate 1 (.int .i64 x)) rfl Tryz.u24 Tryz.s2 (by rw [nmin_le h1]; decide) (by rw [nmin_le h1]; exact S.old hx (fun h => h)) (by simp; omega) rfl) ?_
  clear S; rintro h w ⟨rfl, S⟩
  simp only [List.set_cons_zero] at S
  rw [show List.replicate N (Value.int .i64 0) = List.replicate 0 (.int .i64 x) ++ List.replicate N (.int .i64 0) by simp, lay_rep h1] at S
  rw [nmin_le h1]
  simp only [BS, LB, Nat.reduceLT, Nat.reduceEqDiff, Int.cast_ofNat_Int]
  refine loop_ind (fun (n : Nat) ρ h => 1 ≤ n ∧ n ≤ N ∧ St NoM h0 h [(bb, .row (List.replicate n (.int .i64 x) ++ List.replicate (N - n) (.int .i64 0)) 1)] [] ∧ ρ 7 = .slice (some ⟨bb, 0, none⟩) N N ∧ ρ 8 = .int .i64 n) (fun n => N - n) ?_ 1 _ _ ?_
  · clear S
    intro n ih ρ h ⟨hn1, hn, S, r7, r8⟩
    by_cases hlt : n < N
    · simp only [BS, LB, Nat.reduceLT, Nat.reduceEqDiff, Tryz.FFf283, r7, r8, lt_nat, hlt]
      refine draw_step (hoist_no rfl) (q := 0) (ps := []) (by kernel_rfl) ?_
      simp only [BS, LB, cls, Nat.reduceLT, Nat.reduceEqDiff, Nat.reduceAdd, Nat.reducePow, Nat.reduceDiv, Nat.reduceMod, Nat.reduceLeDiff, Option.map_some, Option.map_none, r7, r8, slice_lo Tryz.u24 Tryz.s2 hlt, slice_hi0 Tryz.u24 Tryz.s2 (Nat.le_of_lt hlt)]
      have hm : 0 < nmin n (N - n) := by
        rcases Nat.le_total n (N - n) with h | h
        · rw [nmin_le h]; omega
        · rw [nmin_ge h]; omega
      have hm2 : nmin n (N - n) ≤ N - n ∧ nmin n (N - n) ≤ n := by
        rcases Nat.le_total n (N - n) with h | h
        · rw [nmin_le h]; omega
        · rw [nmin_ge h]; omega
      refine dn_v (S.copyO (i := 0) (l := List.replicate (nmin n (N - n)) (.int .i64 x)) rfl Tryz.u24 Tryz.s2 hm ?_ (by simp; omega) (by simp; right; rfl)) ?_
      · rw [(S.row m0).load (by simp; omega), Nat.mul_one, List.drop_zero]
        congr 1
        rw [List.take_append_of_le_length (by simp; omega), List.take_replicate]
        congr 1
        omega
      clear S; rintro h w ⟨rfl, S⟩
      simp only [List.set_cons_zero] at S
      rw [lay_rep hm2.1] at S
      generalize nmin n (N - n) = k at S hm hm2
      have w : wrapI .i64 ((n : Int) + (k : Int)) = ((n + k : Nat) : Int) := by rw [wrap64] <;> omega
      simp only [BS, LB, cls, Nat.reduceLT, Nat.reduceEqDiff, Nat.reduceAdd, Nat.reducePow, Nat.reduceDiv, Nat.reduceMod, Nat.reduceLeDiff, w]
      exact ih (n + k) _ _ (by omega) ⟨by omega, by omega, by rw [show N - (n + k) = N - n - k by omega]; exact S, by simp [setR, r7], by simp [setR]⟩
    · simp only [BS, LB, tupleOf, Nat.reduceLT, Nat.reduceEqDiff, Tryz.FFf283, r7, r8, lt_nat, hlt]
      have e : n = N := by omega
      subst e
      have R := S.row (b := bb) m0
      rw [Nat.sub_self, List.replicate_zero, List.append_nil] at R
      exact ⟨S.gr, bb, rfl, n_bb, R⟩
  · exact ⟨Nat.le_refl _, h1, by simpa using S, by simp [setR], by simp [setR]⟩
theorem repI_ok {h0 : Hp} (ok : h0.t.Sized h0.n) {v : Value} {x : Int} {N : Nat} (hv : SlAt h0 1 (encI .i64) v [x]) (h1 : 1 ≤ N) (hN : N < 1000) : Ret Tryz.abEnv 84 [v, .int .i64 N] h0 fun r h' => Gr h0 h' ∧ ∃ b, r = .slice (some ⟨b, 0, none⟩) N N ∧ h0.n ≤ b ∧ Row h' b (List.replicate N (.int .i64 x)) 1 := by
  have S := St.init (M := NoM) ok
  have c1 : ¬ ((N : Int) < 0) := by omega
  have c2 : ¬ ((9223372036854775807 : Int) < (N : Int)) := by omega
  have wn : wrapI .u64 (N : Int) = (N : Int) := wrapUn (by omega) (by omega)
  have w1 : wrapI .u64 1 = 1 := rfl
  have wm : wrapI .i64 (N : Int) = (N : Int) := by rw [wrap64] <;> omega
  obtain ⟨bx, ox, sx, cx, rfl, hcx, hx⟩ : ∃ b o s c, v = .slice (some ⟨b, o, s⟩) 1 c ∧ 1 ≤ c ∧ h0.load b o 1 = some [.int .i64 x] := by
    rcases hv with ⟨_, h⟩ | ⟨b, o, s, c, rfl, h2, h3⟩
    · cases h
    · exact ⟨b, o, s, c, rfl, h2, h3⟩
  refine enter_ret (n := 48) (rs := [.tmp 4]) rfl Tryz.e84 rfl rfl rfl (lbt rfl) ?_
  simp only [BS, LB, convV, convKind, convP, Nat.reduceLT, Nat.reduceEqDiff, Int.cast_ofNat_Int, Tryz.FFf284, c1, wn, w1]
  refine step_pure (mul_ok S.ok hN) ?_; intro h g; replace S := S.call g; clear g
  simp only [BS, LB, convV, convKind, convP, Nat.reduceLT, Nat.reduceEqDiff, Int.reduceLT, Tryz.FFf284, c2, wm]
  refine step_newS (mk_new (by first | exact Tryz.u31) (by first | exact Tryz.e3E) (by omega) (by omega)) S ?_; clear S; intro h bb S n_bb
  rw [Int.toNat_natCast, repL_rep] at S
  simp only [BS, LB, Nat.reduceLT, Nat.reduceEqDiff, Int.toNat_natCast]
  refine step_v (S.copyO (i := 0) (l := List.replicate 1 (.int .i64 x)) rfl Tryz.u31 Tryz.s3 (by rw [nmin_le h1]; decide) (by rw [nmin_le h1]; exact S.old hx (fun h => h)) (by simp; omega) rfl) ?_
  clear S; rintro h w ⟨rfl, S⟩
  simp only [List.set_cons_zero] at S
  rw [show List.replicate N (Value.int .i64 0) = List.replicate 0 (.int .i64 x) ++ List.replicate N (.int .i64 0) by simp, lay_rep h1] at S
  rw [nmin_le h1]
  simp only [BS, LB, Nat.reduceLT, Nat.reduceEqDiff, Int.cast_ofNat_Int]
  refine loop_ind (fun (n : Nat) ρ h => 1 ≤ n ∧ n ≤ N ∧ St NoM h0 h [(bb, .row (List.replicate n (.int .i64 x) ++ List.replicate (N - n) (.int .i64 0)) 1)] [] ∧ ρ 7 = .slice (some ⟨bb, 0, none⟩) N N ∧ ρ 8 = .int .i64 n) (fun n => N - n) ?_ 1 _ _ ?_
  · clear S
    intro n ih ρ h ⟨hn1, hn, S, r7, r8⟩
    by_cases hlt : n < N
    · simp only [BS, LB, Nat.reduceLT, Nat.reduceEqDiff, Tryz.FFf284, r7, r8, lt_nat, hlt]
      refine draw_step (hoist_no rfl) (q := 0) (ps := []) (by kernel_rfl) ?_
      simp only [BS, LB, cls, Nat.reduceLT, Nat.reduceEqDiff, Nat.reduceAdd, Nat.reducePow, Nat.reduceDiv, Nat.reduceMod, Nat.reduceLeDiff, Option.map_some, Option.map_none, r7, r8, slice_lo Tryz.u31 Tryz.s3 hlt, slice_hi0 Tryz.u31 Tryz.s3 (Nat.le_of_lt hlt)]
      have hm : 0 < nmin n (N - n) := by
        rcases Nat.le_total n (N - n) with h | h
        · rw [nmin_le h]; omega
        · rw [nmin_ge h]; omega
      have hm2 : nmin n (N - n) ≤ N - n ∧ nmin n (N - n) ≤ n := by
        rcases Nat.le_total n (N - n) with h | h
        · rw [nmin_le h]; omega
        · rw [nmin_ge h]; omega
      refine dn_v (S.copyO (i := 0) (l := List.replicate (nmin n (N - n)) (.int .i64 x)) rfl Tryz.u31 Tryz.s3 hm ?_ (by simp; omega) (by simp; right; rfl)) ?_
      · rw [(S.row m0).load (by simp; omega), Nat.mul_one, List.drop_zero]
        congr 1
        rw [List.take_append_of_le_length (by simp; omega), List.take_replicate]
        congr 1
        omega
      clear S; rintro h w ⟨rfl, S⟩
      simp only [List.set_cons_zero] at S
      rw [lay_rep hm2.1] at S
      generalize nmin n (N - n) = k at S hm hm2
      have w : wrapI .i64 ((n : Int) + (k : Int)) = ((n + k : Nat) : Int) := by rw [wrap64] <;> omega
      simp only [BS, LB, cls, Nat.reduceLT, Nat.reduceEqDiff, Nat.reduceAdd, Nat.reducePow, Nat.reduceDiv, Nat.reduceMod, Nat.reduceLeDiff, w]
      exact ih (n + k) _ _ (by omega) ⟨by omega, by omega, by rw [show N - (n + k) = N - n - k by omega]; exact S, by simp [setR, r7], by simp [setR]⟩
    · simp only [BS, LB, tupleOf, Nat.reduceLT, Nat.reduceEqDiff, Tryz.FFf284, r7, r8, lt_nat, hlt]
      have e : n = N := by omega
      subst e
      have R := S.row (b := bb) m0
      rw [Nat.sub_self, List.replicate_zero, List.append_nil] at R
      exact ⟨S.gr, bb, rfl, n_bb, R⟩
  · exact ⟨Nat.le_refl _, h1, by simpa using S, by simp [setR], by simp [setR]⟩
end Go.Ab

end
section
namespace Go.Ab
open Go.Proofs
set_option maxRecDepth 10000
open Tryz in
def Tryz.FFf3112 := aj a1 <| aj s1 <| aj z1 <| aj n1 <| aj u2 <| aj a2 <| aj s2 <| aj z2 <| aj i2 <| aj u3 <| aj a3 <| aj s3 <| aj z3 <| aj i3 <| aj u4 <| aj a4 <| aj s4 <| aj z4 <| aj n4 <| aj u5 <| aj a5 <| aj s5 <| aj z5 <| aj i5 <| aj a27 <| aj s27 <| aj z27 <| aj i27 <| aj n27 <| aj p27 <| aj ff27 <| aj d27 <| aj u29 <| aj a29 <| aj s29 <| aj z29 <| aj q29 <| aj i29 <| aj n29 <| aj u31 <| aj a31 <| aj s31 <| aj z31 <| aj q31 <| aj n31 <| aj a51 <| aj s51 <| aj z51 <| aj i51 <| aj n51 <| aj p51 <| aj ff51 <| aj d51 <| aj a97 <| aj s97 <| aj z97 <| aj n97 <| aj u126 <| aj a126 <| aj s126 <| aj z126 <| aj q126 <| aj n126 <| aj a128 <| aj s128 <| aj z128 <| aj i128 <| aj n128 <| aj p128 <| aj ff128 <| aj d128 <| aj a177 <| aj s177 <| aj z177 <| n177
def arcXs (A : List Arc) (f : Arc → Nat) (ids : List Nat) : List (List Value) := ids.map fun (id : Nat) => [.int .i64 id, .agg ⟨encA ⟨0, f (A.getD id default), (A.getD id default).w⟩⟩]
theorem arcs_ok' {h0 : Hp} (ok : h0.t.Sized h0.n) {p vl ve : Value} (f1 : Fl p) (f2 : Fl vl) (f3 : Fl ve) : Ret Tryz.abEnv 87 [p, vl, ve] h0 fun v h' => Gr h0 h' ∧ ∃ b1 b2 b3, v = .func (.func 112) #[] #[ptrTo b1, ptrTo b2, ptrTo b3] ∧ h0.n ≤ b1 ∧ h0.n ≤ b2 ∧ h0.n ≤ b3 ∧ h'.load b1 0 1 = some [vl] ∧ h'.load b2 0 1 = some [p] ∧ h'.load b3 0 1 = some [ve] := by
  have S := St.init (M := NoM) ok
  refine enter_ret (n := 8) (rs := [.tmp 6]) rfl Tryz.e87 rfl rfl rfl (lbt rfl) ?_
  simp only [BS, Nat.reduceLT]
  refine step_newS (box_fl (by first | exact fl_int | exact fl_slice | exact fl_ptr | exact fl_bool | exact fl_map | exact fl_func | exact fl_nili | exact fl_iface | exact fl_nilf | exact fl_str | assumption)) S ?_; clear S; intro h b2 S n_b2
  simp only [BS, Nat.reduceLT, Nat.reduceEqDiff, if_false]
  refine step_newS (box_fl (by first | exact fl_int | exact fl_slice | exact fl_ptr | exact fl_bool | exact fl_map | exact fl_func | exact fl_nili | exact fl_iface | exact fl_nilf | exact fl_str | assumption)) S ?_; clear S; intro h b1 S n_b1
  simp only [BS, Nat.reduceLT, Nat.reduceEqDiff, if_false]
  refine step_newS (box_fl (by first | exact fl_int | exact fl_slice | exact fl_ptr | exact fl_bool | exact fl_map | exact fl_func | exact fl_nili | exact fl_iface | exact fl_nilf | exact fl_str | assumption)) S ?_; clear S; intro h b3 S n_b3
  simp only [BS, LB, tupleOf, Nat.reduceLT, Nat.reduceEqDiff]
  exact ⟨S.gr, b1, b2, b3, rfl, n_b1, n_b2, n_b3, S.ld m1 rfl, S.ld m2 rfl, S.ld m0 rfl⟩
theorem arcs_it {hq h0 : Hp} (okq : hq.t.Sized hq.n) (ok0 : h0.t.Sized h0.n) (kq : Keep hq h0) (nq : hq.n ≤ h0.n) {p vl : Value} {γ : Gra} {nb b1 b2 b3 : Nat} (hn : NetAt hq nb p γ) {ids : List Nat} (hl : SlAt h0 1 encN vl ids) (hids : ∀ id ∈ ids, id < γ.arcs.length) (hlen : ids.length < 1000) {g : FuncId} {f : Arc → Nat} (hk : KeyF Tryz.abEnv g f)
    (e1 : h0.load b1 0 1 = some [vl]) (e2 : h0.load b2 0 1 = some [p]) (e3 : h0.load b3 0 1 = some [.func (.func g) #[] #[]]) :
    IterN Tryz.abEnv 112 [] [ptrTo b1, ptrTo b2, ptrTo b3] h0 (fun c => c = b1 ∨ c = b2 ∨ c = b3 ∨ blkOf vl c ∨ c < hq.n) (arcXs γ.arcs f ids) := by
  intro lb J Z hz Y h F s hj
  refine enter (n := 32) (rs := []) rfl Tryz.e112 rfl rfl rfl (lbt rfl) ?_
  have l1 := s.load ok0 e1 (.inl rfl)
  simp only [BS, LB, Nat.reduceLT, Tryz.FFf3112, l1, hl.lenq]
  refine loop_ind (fun (i : Nat) ρ h => i ≤ ids.length ∧ ∃ F, ItS h0 (fun c => c = b1 ∨ c = b2 ∨ c = b3 ∨ blkOf vl c ∨ c < hq.n) h F ∧ J i h F ∧ ρ 0 = .func (.yield lb) #[] #[] ∧ ρ 1 = ptrTo b1 ∧ ρ 2 = ptrTo b2 ∧ ρ 3 = ptrTo b3 ∧ ρ 9 = vl ∧ ρ 10 = .int .i64 ids.length ∧ ρ 11 = .int .i64 i) (fun i => ids.length - i) ?_ 0 _ _ ?_
  · clear l1
    intro i ih ρ h ⟨hi, F, s, hj, r0, r1, r2, r3, r9, r10, r11⟩
    by_cases hlt : i < ids.length
    · obtain ⟨c, o, hidx, hld⟩ := (s.sl ok0 hl (fun b h => .inr (.inr (.inr (.inl h))))).ix (kd := .i64) encN_len hlt
      have l2 := s.load ok0 e2 (.inr (.inl rfl))
      have l3 := s.load ok0 e3 (.inr (.inr (.inl rfl)))
      have hid := hids _ (List.getElem_mem hlt)
      have nt : NetAt h nb p γ := hn.keep okq (s.keep kq nq (fun c hc => .inr (.inr (.inr (.inr hc)))))
      have w : wrapI .i64 ((i : Int) + 1) = ((i + 1 : Nat) : Int) := by rw [wrap64] <;> omega
      have S := St.init (M := NoM) s.ok
      simp only [BS, LB, Nat.reduceLT, Nat.reduceEqDiff, Tryz.FFf3112, r2, r9, r10, r11, lt_nat, hlt, hidx, hld, encN, l2]
      refine step_ret (netArc_ok S.ok nt hid) ?_
      rintro v h2 ⟨g1, rfl⟩
      replace S := S.call g1; clear g1
      simp only [BS, LB, Nat.reduceLT, Nat.reduceEqDiff, Tryz.FFf3112]
      refine step_newS allocR_new S ?_; clear S; intro h b7 S n_b7
      simp only [BS, LB, Nat.reduceLT, Nat.reduceEqDiff, encA]
      first | refine step_u (S.store (i := 0) rfl ?_ ?_ rfl rfl ?_ ono) ?_ | refine step_u (S.store (i := 1) rfl ?_ ?_ rfl rfl ?_ ono) ?_ | refine step_u (S.store (i := 2) rfl ?_ ?_ rfl rfl ?_ ono) ?_ | refine step_u (S.store (i := 3) rfl ?_ ?_ rfl rfl ?_ ono) ?_ | refine step_u (S.store (i := 4) rfl ?_ ?_ rfl rfl ?_ ono) ?_ | refine step_u (S.store (i := 5) rfl ?_ ?_ rfl rfl ?_ ono) ?_ | refine step_u (S.store (i := 6) rfl ?_ ?_ rfl rfl ?_ ono) ?_ | refine step_u (S.store (i := 7) rfl ?_ ?_ rfl rfl ?_ ono) ?_
      · exact (by first | exact Tryz.s27 | exact Tryz.s51 | exact Tryz.s128)
      · exact (by intro x e; cases e)
      · exact lbt rfl
      clear S; rintro h ⟨S, mo⟩; clear mo; simp only [List.set_cons_zero, List.set_cons_succ, vcells, lay, List.take, List.drop, List.nil_append, List.cons_append, List.append_nil, List.length_cons, List.length_nil, Nat.reduceAdd, Nat.add_zero] at S
      simp only [BS, LB, Nat.reduceLT, Nat.reduceEqDiff]
      refine draw_step (hoist_no rfl) (q := 0) (ps := [(4, 6)]) (by kernel_rfl) ?_
      simp only [BS, LB, cls, Nat.reduceLT, Nat.reduceEqDiff, Nat.reduceAdd, Nat.reducePow, Nat.reduceDiv, Nat.reduceMod, Nat.reduceLeDiff, Tryz.FFf3112, r0, r3, S.old l3 (fun h => h), S.lds (b := b7) (o := 0) (n := 3) (by repeat constructor) (lbt rfl)]
      have hlt7 := (S.row (b := b7) m0).lt S.ok
      refine dn_pure (hk _ γ.arcs[ids[i]] S.ok) ?_
      intro h' g1
      have lv := leaves_gr g1 hlt7
      replace S := S.call g1; clear g1
      simp only [BS, LB, cls, Nat.reduceLT, Nat.reduceEqDiff, Nat.reduceAdd, Nat.reducePow, Nat.reduceDiv, Nat.reduceMod, Nat.reduceLeDiff, Tryz.FFf3112, S.ld (b := b7) (o := 2) (by repeat constructor) rfl]
      have gd : γ.arcs.getD ids[i] default = γ.arcs[ids[i]] := by simp [List.getD_eq_getElem?_getD, hid]
      have hx : (arcXs γ.arcs f ids)[i]? = some [.int .i64 (ids[i] : Nat), .agg ⟨[.int .i64 0, .int .i64 (f γ.arcs[ids[i]] : Nat), .int .i64 (γ.arcs[ids[i]].w : Nat)]⟩] := by
        unfold arcXs
        rw [List.getElem?_map, List.getElem?_eq_getElem hlt]
        simp only [Option.map_some, gd]
        rfl
      refine dn_yield hz Y (s.gr S.gr) (Y.gr _ _ _ _ hj S.gr) (j := i) hx ?_ ?_
      · intro h' F' a s' _ _
        simp only [BS, LB, cls, Nat.reduceLT, Nat.reduceEqDiff, Nat.reduceAdd, Nat.reducePow, Nat.reduceDiv, Nat.reduceMod, Nat.reduceLeDiff, r11, w]
        refine ⟨by simp only [pairs_cons, pairs_nil, entry_noted, entry_hit, entry_miss, ne_eq, not_false_eq_true, note_load, note_run, note_alloc, noted_some, ll_tmp, ll_put, setR_at, Nat.reduceLT, Nat.reduceEqDiff, reduceIte, Bool.and_true, r0, r1, r2, r3, ptr_eq, pair_rb lv, pair_br lv], ?_⟩
        exact ih (i + 1) _ _ (by omega) ⟨by omega, F', s', a, by simp [setR, r0], by simp [setR, r1, ptr_eq], by simp [setR, r2, ptr_eq], by simp [setR, r3, ptr_eq], by simp [setR, r9], by simp [setR, r10], by simp [setR]⟩
      · intro h' a _
        simp only [BS, LB, cls, Nat.reduceLT, Nat.reduceEqDiff, Nat.reduceAdd, Nat.reducePow, Nat.reduceDiv, Nat.reduceMod, Nat.reduceLeDiff]
        refine ⟨by simp only [pairs_cons, pairs_nil, entry_noted, entry_hit, entry_miss, ne_eq, not_false_eq_true, note_load, note_run, note_alloc, noted_some, ll_tmp, ll_put, setR_at, Nat.reduceLT, Nat.reduceEqDiff, reduceIte, Bool.and_true, r0, r1, r2, r3, ptr_eq, pair_rb lv, pair_br lv], ?_⟩
        exact leave_q rfl ⟨rfl, .inr (.inl ⟨_, rfl, a⟩)⟩
    · simp only [BS, LB, Nat.reduceLT, r10, r11, lt_nat, hlt]
      have : i = ids.length := by omega
      subst this
      exact leave_genN (un_nil ⟨rfl, _, rfl, rfl, .inl ⟨_, F, rfl, by simpa [arcXs] using hj⟩⟩)
  · exact ⟨by omega, F, s, hj, by simp [setR, argR], by simp [setR, argR, ptr_eq], by simp [setR, argR, ptr_eq], by simp [setR, argR, ptr_eq], by simp [setR], by simp [setR], by simp [setR]⟩
end Go.Ab

end
section
namespace Go.Ab
section
variable {M : Nat → Prop} {h0 h h' : Hp} {L L' : List (Nat × Ob)} {G G' : List GL} {Fh : List Nat}
theorem St.baseF (S : St M h0 h L G) (Fh : List Nat) : St (fun c => c ∈ keys L G ∨ c ∈ Fh) h h L G :=
  ⟨Mo.refl S.ok, fun p hp => ⟨.inr (.inl (mem_keys_L hp)), (S.own p hp).2⟩, fun p hp => ⟨(S.gown p hp).1, fun b hb => .inr (.inl (mem_keys_G hp hb))⟩, S.apart⟩
theorem St.rebaseF (S : St M h0 h L G) (hF : ∀ c ∈ Fh, h0.n ≤ c ∨ M c) (T : St (fun c => c ∈ keys L G ∨ c ∈ Fh) h h' L' G') : St M h0 h' L' G' := by
  have hk : ∀ b, h.n ≤ b ∨ (b ∈ keys L G ∨ b ∈ Fh) → h0.n ≤ b ∨ M b := fun b hb => hb.elim (fun hb => .inl (Nat.le_trans S.fr.n hb)) (fun hb => hb.elim S.key_own (hF b))
  exact ⟨S.fr.trans T.fr fun b hb => (hb.elim S.key_own (hF b)).symm, fun p hp => ⟨hk _ (T.own p hp).1, (T.own p hp).2⟩, fun p hp => ⟨(T.gown p hp).1, fun b hb => hk b ((T.gown p hp).2 b hb)⟩, T.apart⟩
theorem St.callF (S : St M h0 h L G) {i b : Nat} {o o' : Ob} (hi : L[i]? = some (b, o)) (f : Mo (fun c => c ∈ Fh ∨ c = b) h h') (hF : ∀ c ∈ Fh, (M c ∨ h0.n ≤ c) ∧ c ∉ keys L G) (ho : Has h' b o') : St M h0 h' (L.set i (b, o')) G := by
  have hb := S.own _ (List.mem_of_getElem? hi)
  have hkey : (keys L G)[i]? = some b := keys_at hi
  refine ⟨S.fr.trans f (fun c hc => by rcases hc with hc | rfl; exact (hF c hc).1; exact hb.1.symm), fun p hp => ?_, fun p hp => ⟨(S.gown p hp).1.of_get fun c hc => ?_, (S.gown p hp).2⟩, ?_⟩
  · rcases mem_set hp with rfl | ⟨j, hj, hp⟩
    · exact ⟨hb.1, ho⟩
    · have h1 := S.own p (List.mem_of_getElem? hp)
      refine ⟨h1.1, h1.2.of_get (f.get _ (h1.2.lt S.ok) fun e => ?_)⟩
      rcases e with e | e
      · exact (hF _ e).2 (mem_keys_L (List.mem_of_getElem? hp))
      · apply hj
        have h2 : (keys L G)[j]? = some b := by rw [keys_at hp]; rw [e]
        exact nodup_get S.apart h2 hkey
  · refine f.get c ((S.gown p hp).1.lt S.ok hc) fun e => ?_
    rcases e with e | e
    · exact (hF _ e).2 (mem_keys_G hp hc)
    · subst e
      have h1 := S.apart
      unfold keys at h1
      rw [List.nodup_append] at h1
      exact h1.2.2 c (List.mem_map.2 ⟨_, List.mem_of_getElem? hi, rfl⟩) c (List.mem_filterMap.2 ⟨p, hp, hc⟩) rfl
  · have : keys (L.set i (b, o')) G = keys L G := by
      unfold keys
      congr 1
      rw [List.map_set]
      refine List.ext_getElem? fun j => ?_
      rw [List.getElem?_set]
      split
      · rename_i e; subst e
        have := (List.getElem?_eq_some_iff.1 hi).1
        rw [if_pos (by simpa using this), List.getElem?_map, hi]; rfl
      · rfl
    rw [this]; exact S.apart
theorem St.stepF (S : St M h0 h L G) (f : Mo (· ∈ Fh) h h') (hF : ∀ c ∈ Fh, (M c ∨ h0.n ≤ c) ∧ c ∉ keys L G) : St M h0 h' L G :=
  S.step f (fun c hc => (hF c hc).1) (fun c hc hm => (hF c hm).2 hc)
theorem St.permL (S : St M h0 h L G) (p : L'.Perm L) : St M h0 h L' G :=
  ⟨S.fr, fun x hx => S.own x (p.mem_iff.1 hx), S.gown, by
    have : (keys L' G).Perm (keys L G) := (p.map Prod.fst).append_right _
    exact this.nodup_iff.2 S.apart⟩
end
theorem St.mono {M M' : Nat → Prop} {h0 h : Hp} {L : List (Nat × Ob)} {G : List GL} (S : St M h0 h L G) (hm : ∀ b, M b → M' b) : St M' h0 h L G :=
  ⟨S.fr.mono hm, fun p hp => ⟨(S.own p hp).1.imp (fun h => h) (hm _), (S.own p hp).2⟩, fun p hp => ⟨(S.gown p hp).1, fun b hb => ((S.gown p hp).2 b hb).imp (fun h => h) (hm _)⟩, S.apart⟩
theorem Dj.exm {B : List Arc} {s N : Nat} {O : List Nat} {D : Nat → Nat} {K : Nat → Option Int} {ex ex' : Arc → Prop} (d : Dj B s N O D K ex) (h : ∀ a ∈ B, ex a → ex' a) : Dj B s N O D K ex' :=
  ⟨d.i1, d.i2, d.i2f, d.i3, fun a ha hs hx => d.i4 a ha hs (fun hh => hx (h a ha hh)), d.i5, d.nd, d.lt⟩
def noteSl : Value → Option Tch
  | .map (some r) => some (.blk r)
  | .slice (some a) _ _ => some (.blk a.block)
  | _ => none
theorem note_app {ρ : Operand → Value} {b : Bool} {x y : Operand} {ts : Array TypeId} {h h' : Hp} : noteOf ρ b (.call ⟨.builtin .append, #[x, y], ts⟩) h h' = noteSl (ρ x) := by
  simp only [noteOf, isRun, touchA, isAlloc, touch, cond_false]
  cases ρ x <;> first | rfl | (rename_i x; cases x <;> rfl) | (rename_i x _ _; cases x <;> rfl)
theorem pair_x {x : Option Tch} : pairOk x none = true := by
  cases x with
  | none => rfl
  | some b => cases b <;> rfl
theorem entry_nl {i : Nat} : entryOf i [] = none := rfl
end Go.Ab

end
section
namespace Go.Ab
open Go.Proofs
set_option maxRecDepth 10000
open Tryz in
def Tryz.FFf488 := aj a1 <| aj s1 <| aj z1 <| aj n1 <| aj u2 <| aj a2 <| aj s2 <| aj z2 <| aj i2 <| aj u3 <| aj a3 <| aj s3 <| aj z3 <| aj i3 <| aj u4 <| aj a4 <| aj s4 <| aj z4 <| aj n4 <| aj u5 <| aj a5 <| aj s5 <| aj z5 <| aj i5 <| aj u24 <| aj a24 <| aj s24 <| aj z24 <| aj q24 <| aj n24 <| aj u31 <| aj a31 <| aj s31 <| aj z31 <| aj q31 <| aj n31 <| aj a48 <| aj s48 <| aj z48 <| aj i48 <| aj n48 <| aj p48 <| aj ff48 <| aj d48 <| aj u116 <| aj a116 <| aj s116 <| aj z116 <| aj i116 <| aj u123 <| aj a123 <| aj s123 <| aj z123 <| aj n123 <| aj u130 <| aj a130 <| aj s130 <| aj z130 <| aj q130 <| aj i130 <| aj n130 <| aj u131 <| aj a131 <| aj s131 <| aj z131 <| aj q131 <| aj i131 <| aj n131 <| aj a136 <| aj s136 <| aj z136 <| aj i136 <| aj n136 <| aj p136 <| aj ff136 <| aj d136 <| aj a166 <| aj s166 <| aj z166 <| aj i166 <| aj n166 <| aj p166 <| aj ff166 <| aj d166 <| aj a168 <| aj s168 <| aj z168 <| aj i168 <| aj n168 <| aj p168 <| aj ff168 <| d168
theorem ints_set (l : List Int) (i : Nat) (x : Int) : (ints l).set i (.int .i64 x) = ints (l.set i x) := by
  have e4 : ∀ l : List Int, ints l = l.map fun x => Value.int .i64 x := fun l => by
    unfold ints; rw [List.flatMap_eq_foldl, List.map_eq_flatMap, List.flatMap_eq_foldl]; rfl
  rw [e4, e4, List.map_set]
theorem reach_ok {h0 : Hp} (ok : h0.t.Sized h0.n) {br ba bc c N v arc far : Nat} {p vD vO : Value} {F : List Nat} {K : Nat → Option Int} {O : List Nat} {es : List (Value × Value × Nat)} {f : Int → Option Value} {aL : List Int}
    (R : Row h0 br [p, vD, .slice (some ⟨ba, 0, none⟩) N N, vO, .map (some bc)] 1) (H : HeapAt h0 F p N K) (hN : N ≤ 1000) (hc : h0.get bc = some (.map es c)) (MI : MapI es c f) (CF : ClF O f) (hA : Row h0 ba (ints aL) 1) (lA : aL.length = N) (hv : v < N)
    (d1 : ba ∉ F) (d2 : br ∉ F) (d3 : br ≠ ba) :
    Ret Tryz.abEnv 88 [ptrTo br, .int .i64 v, .int .i64 arc, .int .i64 far] h0 fun _ h' => Mo (fun c => c ∈ F ∨ c = ba) h0 h' ∧ ∃ F' aL', HeapAt h' F' p N (relaxK O K v far) ∧ (∀ b ∈ F', b ∈ F ∨ h0.n ≤ b) ∧ Row h' ba (ints aL') 1 ∧ aL'.length = N ∧ ((relaxK O K v far = K ∧ aL' = aL) ∨ (v ∉ O ∧ relaxK O K v far = updK K v (some (far : Int)) ∧ aL' = aL.set v arc)) := by
  have S := St.init (M := NoM) ok
  have hA0 := hA.lt ok
  have l0 := R.load1 (o := 0) rfl
  have l4 := R.load1 (o := 4) rfl
  have l2 := R.load1 (o := 2) rfl
  have pp : ∃ b, p = ptrTo b := by obtain ⟨b, _, _, e, _⟩ := H.ex; exact ⟨b, e⟩
  obtain ⟨bp, rfl⟩ := pp
  refine enter_ret (n := 59) (rs := []) rfl Tryz.e88 rfl rfl rfl (lbt rfl) ?_
  simp only [BS, LB, Nat.reduceLT, Nat.reduceEqDiff, Tryz.FFf488, l0]
  refine step_pure (heapKey_ok S.ok H) ?_
  intro h g; replace S := S.call g; clear g
  replace hc : h.get bc = some (.map es c) := S.gr.at hc
  have H1 := H.gr S.gr
  have lk := lookI_v (x := (v : Int)) Tryz.u123 Tryz.u3 (z := .int .i64 0) (by kernel_rfl) hc MI
  rw [CF v] at lk
  replace l0 := S.old l0 (fun h => h)
  replace l4 := S.old l4 (fun h => h)
  replace l2 := S.old l2 (fun h => h)
  replace hA : Row h ba (ints aL) 1 := hA.gr S.gr
  have R1 := R.gr S.gr
  have gg := S.gr
  by_cases hO : v ∈ O
  · rw [if_pos hO, Option.getD_some] at lk
    simp only [BS, LB, Nat.reduceLT, Nat.reduceEqDiff, Int.reduceLT, Tryz.FFf488, l4, lk]
    exact ⟨gg.fr, F, aL, by unfold relaxK; rw [if_pos hO]; exact H1, fun b hb => .inl hb, hA, lA, .inl ⟨by unfold relaxK; rw [if_pos hO], rfl⟩⟩
  · rw [if_neg hO, Option.getD_none] at lk
    have hba := hA.lt gg.ok
    cases hk : K v with
    | none =>
      have rk : relaxK O K v far = updK K v (some (far : Int)) := by unfold relaxK; rw [if_neg hO, hk]
      simp only [BS, LB, Nat.reduceLT, Nat.reduceEqDiff, Int.reduceLT, Tryz.FFf488, l0, l4, lk, Option.getD_none, Option.isSome_none]
      refine step_ret (heapPush_ok gg.ok H1 hv hN hk) ?_
      rintro r h2 ⟨f2, F', H2, hF'⟩
      have ha2 : Row h2 ba (ints aL) 1 := f2.has (o := .row _ 1) hA d1
      have r2 : Row h2 br [ptrTo bp, vD, .slice (some ⟨ba, 0, none⟩) N N, vO, .map (some bc)] 1 := f2.has (o := .row _ 1) R1 d2
      have l2' := r2.load1 (o := 2) rfl
      have S := St.init1 f2.ok (o := .row _ 1) ha2
      simp only [BS, LB, Nat.reduceLT, Nat.reduceEqDiff, Nat.reduceAdd, Tryz.FFf488, l2', hv]
      refine step_u (store_fl S (i := 0) rfl Tryz.s3 fl_int (by rw [ints_len, lA]; exact hv) ono) ?_
      clear S; rintro h3 ⟨S, mo⟩
      simp only [List.set_cons_zero] at S
      rw [ints_set] at S
      simp only [BS]
      refine ⟨(gg.fr.trans (f2.mono (fun c hc => .inl hc)) (fun c hc => .inl hc) : Mo (fun c => c ∈ F ∨ c = ba) h0 h2).trans mo (fun c hc => .inl (.inr hc)), F', aL.set v arc, by rw [rk]; exact H2.mo mo (fun b hb e => by subst e; rcases hF' b hb with h | h; exact d1 h; omega), fun b hb => (hF' b hb).imp (fun h => h) (fun h => Nat.le_trans gg.n h), S.row m0, by rw [List.length_set]; exact lA, .inr ⟨hO, rk, rfl⟩⟩
    | some k =>
      by_cases hle : k ≤ (far : Int)
      · have rk : relaxK O K v far = K := by unfold relaxK; rw [if_neg hO, hk]; simp only []; rw [if_pos hle]
        simp only [BS, LB, Nat.reduceLT, Nat.reduceEqDiff, Int.reduceLT, Tryz.FFf488, l4, lk, hle, Option.getD_some]
        exact ⟨gg.fr, F, aL, by rw [rk]; exact H1, fun b hb => .inl hb, hA, lA, .inl ⟨rk, rfl⟩⟩
      · have rk : relaxK O K v far = updK K v (some (far : Int)) := by unfold relaxK; rw [if_neg hO, hk]; simp only []; rw [if_neg hle]
        simp only [BS, LB, Nat.reduceLT, Nat.reduceEqDiff, Int.reduceLT, Tryz.FFf488, l0, l4, lk, hle, Option.getD_some]
        refine step_ret (heapLower_ok gg.ok H1 hN hk (by omega)) ?_
        rintro r h2 ⟨f2, H2⟩
        have ha2 : Row h2 ba (ints aL) 1 := f2.has (o := .row _ 1) hA d1
        have r2 : Row h2 br [ptrTo bp, vD, .slice (some ⟨ba, 0, none⟩) N N, vO, .map (some bc)] 1 := f2.has (o := .row _ 1) R1 d2
        have l2' := r2.load1 (o := 2) rfl
        have S := St.init1 f2.ok (o := .row _ 1) ha2
        simp only [BS, LB, Nat.reduceLT, Nat.reduceEqDiff, Nat.reduceAdd, Tryz.FFf488, l2', hv]
        refine step_u (store_fl S (i := 0) rfl Tryz.s3 fl_int (by rw [ints_len, lA]; exact hv) ono) ?_
        clear S; rintro h3 ⟨S, mo⟩
        simp only [List.set_cons_zero] at S
        rw [ints_set] at S
        simp only [BS]
        refine ⟨(gg.fr.trans (f2.mono (fun c hc => .inl hc)) (fun c hc => .inl hc) : Mo (fun c => c ∈ F ∨ c = ba) h0 h2).trans mo (fun c hc => .inl (.inr hc)), F, aL.set v arc, by rw [rk]; exact H2.mo mo (fun b hb e => by subst e; exact d1 hb), fun b hb => .inl hb, S.row m0, by rw [List.length_set]; exact lA, .inr ⟨hO, rk, rfl⟩⟩
end Go.Ab

end
section
namespace Go.Ab
open Go.Proofs
set_option maxRecDepth 10000
open Tryz in
def Tryz.FFf548 := aj a1 <| aj s1 <| aj z1 <| aj n1 <| aj u2 <| aj a2 <| aj s2 <| aj z2 <| aj i2 <| aj u3 <| aj a3 <| aj s3 <| aj z3 <| aj i3 <| aj u4 <| aj a4 <| aj s4 <| aj z4 <| aj n4 <| aj u5 <| aj a5 <| aj s5 <| aj z5 <| aj i5 <| aj u6 <| aj a6 <| aj s6 <| aj z6 <| aj i6 <| aj a7 <| aj s7 <| aj z7 <| aj i7 <| aj n7 <| aj p7 <| aj ff7 <| aj d7 <| aj a8 <| aj s8 <| aj z8 <| aj i8 <| aj n8 <| aj p8 <| aj ff8 <| aj d8 <| aj u9 <| aj a9 <| aj s9 <| aj z9 <| aj n9 <| aj u10 <| aj a10 <| aj s10 <| aj z10 <| aj n10 <| aj u11 <| aj a11 <| aj s11 <| aj z11 <| aj n11 <| aj u12 <| aj a12 <| aj s12 <| aj z12 <| aj i12 <| aj a13 <| aj s13 <| aj z13 <| aj i13 <| aj n13 <| aj p13 <| aj ff13 <| aj d13 <| aj a14 <| aj s14 <| aj z14 <| aj i14 <| aj n14 <| aj p14 <| aj ff14 <| aj d14 <| aj u15 <| aj a15 <| aj s15 <| aj z15 <| aj q15 <| aj i15 <| aj n15 <| aj u16 <| aj a16 <| aj s16 <| aj z16 <| aj q16 <| aj i16 <| aj n16 <| aj u17 <| aj a17 <| aj s17 <| aj z17 <| aj q17 <| aj i17 <| aj n17 <| aj u24 <| aj a24 <| aj s24 <| aj z24 <| aj q24 <| aj n24 <| aj a27 <| aj s27 <| aj z27 <| aj i27 <| aj n27 <| aj p27 <| aj ff27 <| aj d27 <| aj u29 <| aj a29 <| aj s29 <| aj z29 <| aj q29 <| aj i29 <| aj n29 <| aj u31 <| aj a31 <| aj s31 <| aj z31 <| aj q31 <| aj n31 <| aj a48 <| aj s48 <| aj z48 <| aj i48 <| aj n48 <| aj p48 <| aj ff48 <| aj d48 <| aj a51 <| aj s51 <| aj z51 <| aj i51 <| aj n51 <| aj p51 <| aj ff51 <| aj d51 <| aj a96 <| aj s96 <| aj z96 <| aj n96 <| aj a97 <| aj s97 <| aj z97 <| aj n97 <| aj a101 <| aj s101 <| aj z101 <| aj n101 <| aj a102 <| aj s102 <| aj z102 <| aj n102 <| aj u116 <| aj a116 <| aj s116 <| aj z116 <| aj i116 <| aj u123 <| aj a123 <| aj s123 <| aj z123 <| aj n123 <| aj u126 <| aj a126 <| aj s126 <| aj z126 <| aj q126 <| aj n126 <| aj a128 <| aj s128 <| aj z128 <| aj i128 <| aj n128 <| aj p128 <| aj ff128 <| aj d128 <| aj u130 <| aj a130 <| aj s130 <| aj z130 <| aj q130 <| aj i130 <| aj n130 <| aj u131 <| aj a131 <| aj s131 <| aj z131 <| aj q131 <| aj i131 <| aj n131 <| aj a136 <| aj s136 <| aj z136 <| aj i136 <| aj n136 <| aj p136 <| aj ff136 <| aj d136 <| aj a141 <| aj s141 <| aj z141 <| aj n141 <| aj a166 <| aj s166 <| aj z166 <| aj i166 <| aj n166 <| aj p166 <| aj ff166 <| aj d166 <| aj a168 <| aj s168 <| aj z168 <| aj i168 <| aj n168 <| aj p168 <| aj ff168 <| aj d168 <| aj u199 <| aj a199 <| aj s199 <| aj z199 <| aj i199 <| aj u203 <| aj a203 <| aj s203 <| aj z203 <| aj i203 <| aj a237 <| aj s237 <| aj z237 <| aj i237 <| aj n237 <| aj p237 <| aj ff237 <| aj d237 <| aj u238 <| aj a238 <| aj s238 <| aj z238 <| aj n238 <| aj a240 <| aj s240 <| aj z240 <| aj i240 <| aj n240 <| aj u242 <| aj a242 <| aj s242 <| aj z242 <| aj i242 <| aj a243 <| aj s243 <| aj z243 <| aj n243 <| aj u244 <| aj a244 <| aj s244 <| aj z244 <| aj q244 <| aj i244 <| aj n244 <| aj u245 <| aj a245 <| aj s245 <| aj z245 <| aj i245 <| aj u246 <| aj a246 <| aj s246 <| aj z246 <| aj i246 <| aj a248 <| aj s248 <| aj z248 <| aj i248 <| aj n248 <| aj p248 <| aj ff248 <| d248
def seen (A : List Arc) (fs ft : Arc → Nat) : List Arc := A.map fun a => ⟨fs a, ft a, a.w⟩
def NextF (E : Env) (g : FuncId) (γ : Gra) (pn : Value) (fs : Arc → Nat) : Prop := ∀ (h : Hp) (nb : Nat), h.t.Sized h.n → NetAt h nb pn γ → ∀ v, v < γ.nodes → Ret E g [pn, .int .i64 (v : Nat)] h fun r h' => Gr h h' ∧ SlAt h' 1 encN r (outs γ.arcs fs γ.arcs.length v) ∧ ∀ c, blkOf r c → h.n ≤ c
def nats (l : List Nat) : List Value := l.flatMap encN
theorem nats_map (l : List Nat) : nats l = l.map fun (x : Nat) => Value.int .i64 x := by
  unfold nats; rw [List.flatMap_eq_foldl, List.map_eq_flatMap, List.flatMap_eq_foldl]; rfl
theorem ints_map (l : List Int) : ints l = l.map fun x => Value.int .i64 x := by
  unfold ints; rw [List.flatMap_eq_foldl, List.map_eq_flatMap, List.flatMap_eq_foldl]; rfl
theorem nats_len (l : List Nat) : (nats l).length = l.length := by rw [nats_map, List.length_map]
theorem nats_app (l : List Nat) (x : Nat) : nats (l ++ [x]) = nats l ++ nats [x] := by rw [nats_map, nats_map, nats_map, List.map_append]
theorem seen_at {A : List Arc} {fs ft : Arc → Nat} {i : Nat} (hi : i < A.length) : (seen A fs ft).getD i default = ⟨fs (A.getD i default), ft (A.getD i default), (A.getD i default).w⟩ ∧ (seen A fs ft).getD i default ∈ seen A fs ft := by
  have e : (seen A fs ft).getD i default = ⟨fs (A.getD i default), ft (A.getD i default), (A.getD i default).w⟩ := by
    unfold seen; simp [List.getD_eq_getElem?_getD, hi]
  refine ⟨e, ?_⟩
  rw [List.getD_eq_getElem?_getD, List.getElem?_eq_getElem (by unfold seen; simpa using hi)]
  exact List.getElem_mem _
theorem seen_mem {A : List Arc} {fs ft : Arc → Nat} {a : Arc} (ha : a ∈ seen A fs ft) : ∃ i, i < A.length ∧ (seen A fs ft).getD i default = a := by
  obtain ⟨i, hi, e⟩ := List.mem_iff_getElem.1 ha
  exact ⟨i, by unfold seen at hi; simpa using hi, by simp [List.getD_eq_getElem?_getD, hi, e]⟩
def TreeAt (h' : Hp) (m : Nat) (r : Value) (B : List Arc) (s N : Nat) : Prop := ∃ vD vA vO D aL O, r = .agg ⟨[vD, vA, vO]⟩ ∧ SlAt h' 1 encN vD ((List.range N).map D) ∧ SlAt h' 1 (encI .i64) vA aL ∧ SlAt h' 1 encN vO O ∧ aL.length = N ∧ (∀ v, IsD B s v (D v)) ∧ (∀ c, blkOf vD c ∨ blkOf vA c ∨ blkOf vO c → m ≤ c) ∧ O.Nodup ∧ ∀ v ∈ O, v < N
theorem heapPop2_ok {h0 : Hp} (ok : h0.t.Sized h0.n) {F : List Nat} {p : Value} {N : Nat} {K : Nat → Option Int} (H : HeapAt h0 F p N K) (hN : N ≤ 1000) : Ret Tryz.abEnv 86 [p] h0 fun r h' => ∃ (v : Nat) (k : Int) (b : Bool), r = .tuple #[.int .i64 (v : Nat), .int .i64 k, .bool b] ∧ Mo (· ∈ F) h0 h' ∧ HeapAt h' F p N (if b = true then updK K v none else K) ∧ (b = true → K v = some k ∧ ∀ u k', K u = some k' → k ≤ k') ∧ (b = false → ∀ v, K v = none) := by
  refine ret_mono (heapPop_ok ok H hN) ?_
  rintro r h' (⟨rfl, h1, g⟩ | ⟨v, k, rfl, h1, h2, h3, h4⟩)
  · exact ⟨0, 0, false, rfl, g.fr, H.gr g, fun h => (by cases h), fun _ => h1⟩
  · exact ⟨v, k, true, rfl, h3, h4, fun _ => ⟨h1, h2⟩, fun h => (by cases h)⟩
def FloodI (h0 : Hp) (B : List Arc) (s N b9 br bc ba bd b8 bP bp : Nat) (gN gE : FuncId) (O : List Nat) (ρ : Nat → Value) (d : List Deferred) (h : Hp) : Prop :=
  ∃ (dbs : List Nat) (D : Nat → Nat) (K : Nat → Option Int) (F : List Nat) (es : List (Value × Value × Nat)) (c : Nat) (f : Int → Option Value) (aL : List Int) (vO : Value) (bk : Nat) (v : Nat) (key : Int) (b : Bool), d = dbs.map dfrOf ∧
    St NoM h0 h ([(bk, Ob.row [.int .i64 key] 1), (b9, .row [ptrTo br] 1), (br, .row [ptrTo bP, .slice (some ⟨bd, 0, none⟩) N N, .slice (some ⟨ba, 0, none⟩) N N, vO, .map (some bc)] 1), (bc, .map es c), (ba, .row (ints aL) 1), (bd, .row (nats ((List.range N).map D)) 1), (b8, .row [.slice none 0 0, .slice none 0 0, .slice none 0 0] 1)] ++ dfrL dbs) [(vO, 1, nats O)] ∧
    (∀ c' ∈ F, h0.n ≤ c' ∧ c' ∉ keys ([(bk, Ob.row [.int .i64 key] 1), (b9, .row [ptrTo br] 1), (br, .row [ptrTo bP, .slice (some ⟨bd, 0, none⟩) N N, .slice (some ⟨ba, 0, none⟩) N N, vO, .map (some bc)] 1), (bc, .map es c), (ba, .row (ints aL) 1), (bd, .row (nats ((List.range N).map D)) 1), (b8, .row [.slice none 0 0, .slice none 0 0, .slice none 0 0] 1)] ++ dfrL dbs) [(vO, 1, nats O)]) ∧
    aL.length = N ∧ MapI es c f ∧ ClF O f ∧ Dj B s N O D K (fun _ => False) ∧ HeapAt h F (ptrTo bP) N (if b = true then updK K v none else K) ∧ (b = true → K v = some key ∧ ∀ u k', K u = some k' → key ≤ k') ∧ (b = false → ∀ v, K v = none) ∧
    ρ 0 = ptrTo bp ∧ ρ 2 = .func (.func gN) #[ptrTo bp] #[] ∧ ρ 3 = .func (.func gE) #[] #[] ∧ ρ 8 = ptrTo b8 ∧ ρ 9 = ptrTo b9 ∧ ρ 10 = .int .i64 v ∧ ρ 11 = ptrTo bk ∧ ρ 12 = .bool b
theorem flood_ok {h0 : Hp} (ok : h0.t.Sized h0.n) {γ : Gra} (hγ : Good γ) {pn : Value} {nb : Nat} (hn : NetAt h0 nb pn γ) {s : Nat} (hs : s < γ.nodes) {gN gE : FuncId} {fs ft : Arc → Nat} (hN : NextF Tryz.abEnv gN γ pn fs) (hE : KeyF Tryz.abEnv gE ft) (hft : ∀ a ∈ γ.arcs, ft a < γ.nodes) :
    Ret Tryz.abEnv 48 [pn, .int .i64 s, .func (.func gN) #[pn] #[], .func (.func gE) #[] #[]] h0 fun r h' => Gr h0 h' ∧ TreeAt h' h0.n r (seen γ.arcs fs ft) s γ.nodes := by
  have n1 := hγ.n1
  have n2 := hγ.n2
  have S := St.init (M := NoM) ok
  have c1 : ¬ ((s : Int) < 0) := by omega
  have c2 : ¬ ((γ.nodes : Int) ≤ (s : Int)) := by omega
  obtain ⟨bp, epn⟩ : ∃ b, pn = ptrTo b := by obtain ⟨b, _, _, _, _, _, e, _⟩ := hn.ex; exact ⟨b, e⟩
  subst epn
  refine enter_ret (n := 117) (rs := [.cell 8 48]) rfl Tryz.e48 rfl rfl rfl (lbt rfl) ?_
  simp only [BS, Tryz.FFf548]
  refine step_newS allocR_new S ?_; clear S; intro h b8 S n_b8
  simp only [BS, LB, Nat.reduceLT, Nat.reduceEqDiff, Tryz.FFf548, c1]
  refine step_pure (netNodes_ok S.ok (hn.gr S.gr)) ?_; intro h g; replace S := S.call g; clear g
  simp only [BS, LB, Nat.reduceLT, Nat.reduceEqDiff, c2]
  refine step_pure (netNodes_ok S.ok (hn.gr S.gr)) ?_; intro h g; replace S := S.call g; clear g
  simp only [BS, LB, Nat.reduceLT, Nat.reduceEqDiff]
  have nF := S.fr.n
  have kF := fun {c} (hc : c ∈ _) => S.key_lt (b := c) hc
  refine step_ret (heapNew_ok S.ok) ?_; intro v h ⟨g, Fh, H, hFn⟩; replace S := S.call g; clear g
  rename Value => p
  have dF : ∀ c ∈ Fh, c ∉ keys [(b8, Ob.row [.slice none 0 0, .slice none 0 0, .slice none 0 0] 1)] [] := fun c hc hm => by have := kF hm; have := hFn c hc; omega
  have lF := H.lt S.ok
  have S0 := S
  have gF : ∀ c ∈ Fh, h0.n ≤ c ∨ NoM c := fun c hc => .inl (Nat.le_trans nF (hFn c hc))
  replace S := S.base
  simp only [BS, LB]
  refine step_newS (bs_new (by first | exact Tryz.u24 | exact Tryz.u31 | exact Tryz.u126) (by first | exact Tryz.e2E | exact Tryz.e3E | exact Tryz.e31E) (by decide) (by first | rfl | exact fillE )) S ?_; clear S; intro h bs1 S n_bs1; simp only [repL, setL, vcells, List.cons_append, List.nil_append, List.append_nil, List.set_cons_zero, List.set_cons_succ, Nat.reduceMul, Nat.reduceAdd, Nat.zero_mul, Nat.zero_add, Nat.mul_one, Nat.one_mul] at S
  simp only [BS, LB, Nat.reduceLT, Nat.reduceEqDiff]
  refine step_pure (netNodes_ok S.ok (hn.gr (S0.rebase S).gr)) ?_; intro h g; replace S := S.call g; clear g
  simp only [BS, LB, Nat.reduceLT, Nat.reduceEqDiff]
  have kl := fun {c} (hc : c ∈ _) => S.key_lt (b := c) hc
  have kn := S.fr.n
  refine step_ret (rep64_ok S.ok (x := 72057594037927936) (.inr ⟨bs1, 0, none, 1, rfl, Nat.le_refl _, S.lds (b := bs1) (o := 0) (n := 1 * 1) m0 (lbt rfl)⟩) n1 (by omega)) ?_; intro v h ⟨g, bd, ed, nd, Rd⟩; replace S := S.call g; clear g
  subst ed
  replace S := S.drop1
  replace S := S.push (b := bd) (o := .row _ 1) (.inl (Nat.le_trans kn nd)) Rd (fun hm => by have := kl (List.mem_cons_of_mem _ hm); omega)
  simp only [BS, LB]
  refine step_newS (bs_new (by first | exact Tryz.u24 | exact Tryz.u31 | exact Tryz.u126) (by first | exact Tryz.e2E | exact Tryz.e3E | exact Tryz.e31E) (by decide) (by first | rfl | exact fillE )) S ?_; clear S; intro h bs2 S n_bs2; simp only [repL, setL, vcells, List.cons_append, List.nil_append, List.append_nil, List.set_cons_zero, List.set_cons_succ, Nat.reduceMul, Nat.reduceAdd, Nat.zero_mul, Nat.zero_add, Nat.mul_one, Nat.one_mul] at S
  simp only [BS, LB, Nat.reduceLT, Nat.reduceEqDiff]
  refine step_pure (netNodes_ok S.ok (hn.gr (S0.rebase S).gr)) ?_; intro h g; replace S := S.call g; clear g
  simp only [BS, LB, Nat.reduceLT, Nat.reduceEqDiff]
  have kl2 := fun {c} (hc : c ∈ _) => S.key_lt (b := c) hc
  have kn2 := S.fr.n
  refine step_ret (repI_ok S.ok (x := -1) (.inr ⟨bs2, 0, none, 1, rfl, Nat.le_refl _, S.lds (b := bs2) (o := 0) (n := 1 * 1) m0 (lbt rfl)⟩) n1 (by omega)) ?_; intro v h ⟨g, ba, ea, na, Ra⟩; replace S := S.call g; clear g
  subst ea
  replace S := S.drop1
  replace S := S.push (b := ba) (o := .row _ 1) (.inl (Nat.le_trans kn2 na)) Ra (fun hm => by have := kl2 (List.mem_cons_of_mem _ hm); omega)
  have pp : ∃ b, p = ptrTo b := by obtain ⟨b, _, _, e, _⟩ := H.ex; exact ⟨b, e⟩
  obtain ⟨bP, rfl⟩ := pp
  simp only [BS, LB, Nat.reduceLT, Nat.reduceEqDiff, Nat.reduceAdd, Tryz.FFf548]
  refine step_newS map_new S ?_; clear S; intro h bc S n_bc
  simp only [BS, LB, Nat.reduceLT, Nat.reduceEqDiff, Nat.reduceAdd, Nat.reduceLeDiff, Tryz.FFf548]
  refine step_newS (box_new (by intro x e; cases e)) S ?_; clear S; intro h br S n_br; simp only [vcells] at S
  simp only [BS, Tryz.FFf548]
  refine step_newS allocR_new S ?_; clear S; intro h b9 S n_b9
  simp only [BS, LB, Nat.reduceLT, Nat.reduceEqDiff]
  first | refine step_u (store_fl S (i := 0) rfl ?_ ?_ ?_ ono) ?_ | refine step_u (store_fl S (i := 1) rfl ?_ ?_ ?_ ono) ?_ | refine step_u (store_fl S (i := 2) rfl ?_ ?_ ?_ ono) ?_ | refine step_u (store_fl S (i := 3) rfl ?_ ?_ ?_ ono) ?_ | refine step_u (store_fl S (i := 4) rfl ?_ ?_ ?_ ono) ?_ | refine step_u (store_fl S (i := 5) rfl ?_ ?_ ?_ ono) ?_ | refine step_u (store_fl S (i := 6) rfl ?_ ?_ ?_ ono) ?_ | refine step_u (store_fl S (i := 7) rfl ?_ ?_ ?_ ono) ?_
  · exact (by simp only [Tryz.FFf548])
  · exact (by first | exact fl_int | exact fl_slice | exact fl_ptr | exact fl_bool | exact fl_map | exact fl_func | exact fl_nili | exact fl_iface | exact fl_nilf | exact fl_str | assumption)
  · exact Nat.lt_of_succ_le (lbt rfl)
  clear S; rintro h ⟨S, mo⟩; clear mo; simp only [List.set_cons_zero, List.set_cons_succ, vcells, lay, List.take, List.drop, List.nil_append, List.cons_append, List.append_nil, List.length_cons, List.length_nil, Nat.reduceAdd, Nat.add_zero] at S
  simp only [BS, LB, Nat.reduceLT, Nat.reduceEqDiff, Tryz.FFf548, S.ld (b := b9) (o := 0) (by repeat constructor) rfl, S.ld (b := br) (o := 0) (by repeat constructor) rfl]
  have d8 : ∀ c ∈ Fh, c ≠ b8 := fun c hc e => dF c hc (by rw [e]; simp [keys])
  have nd' := Nat.le_trans kn nd
  have na' := Nat.le_trans kn2 na
  clear kl kl2 kF kn nd kn2 na Ra Rd
  have HA := H.mo S.fr dF
  have dis : ∀ c ∈ Fh, c ≠ b9 ∧ c ≠ br ∧ c ≠ bc ∧ c ≠ ba ∧ c ≠ bd ∧ c ≠ b8 := fun c hc => by have := lF c hc; have := d8 c hc; omega
  replace S := S0.rebase S
  clear S0 dF lF d8 H n_bs1 n_bs2
  have T := S.baseF Fh
  have nh := S.fr.n
  have hF1 : ∀ L, (∀ c ∈ keys L [], c = b9 ∨ c = br ∨ c = bc ∨ c = ba ∨ c = bd ∨ c = b8) → ∀ c ∈ Fh, c ∉ keys L [] := fun L hL c hc hm => by
    have := dis c hc
    have := hL c hm
    omega
  have ps : Ret Tryz.abEnv 85 [ptrTo bP, .int .i64 (s : Nat), .int .i64 0] h _ := heapPush_ok S.ok HA hs (by omega) rfl
  refine step_ret ps ?_
  rintro r h1 ⟨f1, F1, H1, hF'⟩
  replace S := S.rebaseF gF (T.stepF f1 (fun c hc => ⟨.inl (.inr hc), hF1 _ (fun c hc => by simpa [keys] using hc) c hc⟩))
  have hF1' : ∀ c ∈ F1, h0.n ≤ c ∧ c ∉ keys [(b9, Ob.row [ptrTo br] 1), (br, .row [ptrTo bP, .slice (some ⟨bd, 0, none⟩) γ.nodes γ.nodes, .slice (some ⟨ba, 0, none⟩) γ.nodes γ.nodes, .slice none 0 0, .map (some bc)] 1), (bc, .map [] 0), (ba, .row (List.replicate γ.nodes (.int .i64 (-1))) 1), (bd, .row (List.replicate γ.nodes (.int .i64 72057594037927936)) 1), (b8, .row [.slice none 0 0, .slice none 0 0, .slice none 0 0] 1)] [] := fun c hc => by
    rcases hF' c hc with h2 | h2
    · exact ⟨(gF c h2).elim (fun h => h) (fun h => h.elim), hF1 _ (fun c hc => by simpa [keys] using hc) c h2⟩
    · refine ⟨Nat.le_trans nh h2, fun hm => ?_⟩
      have := T.key_lt (b := c) (by simpa [keys] using hm)
      omega
  clear T hF1 dis hFn gF nF hF' HA f1
  replace S := S.nilG (k := 1)
  have dj := dj_init (B := seen γ.arcs fs ft) hs
  have lF1 := H1.lt S.ok
  have S1 := S
  replace S := S.baseF F1
  simp only [BS, LB, Nat.reduceLT, Nat.reduceEqDiff, Tryz.FFf548, S.ld (b := b9) (o := 0) (by repeat constructor) rfl, S.ld (b := br) (o := 0) (by repeat constructor) rfl]
  refine step_ret (heapPop2_ok S.ok H1 (by omega)) ?_
  rintro r h2 ⟨v, k, b, rfl, f2, H2, hb1, hb2⟩
  replace S := S.stepF f2 (fun c hc => ⟨.inl (.inr hc), fun hm => (hF1' c hc).2 (by simpa [keys, gkey] using hm)⟩)
  simp only [BS, LB, Nat.reduceLT, Nat.reduceEqDiff, Tryz.FFf548]
  have S2 := S
  replace S := S.base
  refine step_newS allocR_new S ?_; clear S; intro h bk S n_bk
  simp only [BS, LB, Nat.reduceLT, Nat.reduceEqDiff]
  first | refine step_u (store_fl S (i := 0) rfl ?_ ?_ ?_ ono) ?_ | refine step_u (store_fl S (i := 1) rfl ?_ ?_ ?_ ono) ?_ | refine step_u (store_fl S (i := 2) rfl ?_ ?_ ?_ ono) ?_ | refine step_u (store_fl S (i := 3) rfl ?_ ?_ ?_ ono) ?_ | refine step_u (store_fl S (i := 4) rfl ?_ ?_ ?_ ono) ?_ | refine step_u (store_fl S (i := 5) rfl ?_ ?_ ?_ ono) ?_ | refine step_u (store_fl S (i := 6) rfl ?_ ?_ ?_ ono) ?_ | refine step_u (store_fl S (i := 7) rfl ?_ ?_ ?_ ono) ?_
  · exact (by simp only [Tryz.FFf548])
  · exact (by first | exact fl_int | exact fl_slice | exact fl_ptr | exact fl_bool | exact fl_map | exact fl_func | exact fl_nili | exact fl_iface | exact fl_nilf | exact fl_str | assumption)
  · exact Nat.lt_of_succ_le (lbt rfl)
  clear S; rintro h ⟨S, mo⟩; clear mo; simp only [List.set_cons_zero, List.set_cons_succ, vcells, lay, List.take, List.drop, List.nil_append, List.cons_append, List.append_nil, List.length_cons, List.length_nil, Nat.reduceAdd, Nat.add_zero] at S
  simp only [BS, LB, Nat.reduceLT, Nat.reduceEqDiff]
  have H3 := H2.mo S.fr (fun c hc hm => (hF1' c hc).2 (by simpa [keys, gkey] using hm))
  refine loop_indD (FloodI h0 (seen γ.arcs fs ft) s γ.nodes b9 br bc ba bd b8 bP bp gN gE) (fun O => γ.nodes - O.length) ?_ [] _ _ _ ?_
  · clear S S1 S2 H3 hb1 hb2 H2 f2 H1 dj hF1' lF1 ps
    intro O ih ρ d hS ⟨dbs, D, K, F, es, c, f, aL, vO, bk, v, key, b, hd, S0, hF, lA, MI, CF, dj, H, hb1, hb2, r0, r2, r3, r8, r9, r10, r11, r12⟩
    simp only [List.cons_append, List.nil_append] at S0 hF
    have S := S0.base
    cases b with
    | false =>
      simp only [BS, LB, Nat.reduceLT, Nat.reduceEqDiff, Tryz.FFf548, r8, r9, r12, S.ld (b := b9) (o := 0) (by repeat constructor) rfl, S.lds (b := br) (o := 1) (n := 3) (by repeat constructor) (lbt rfl)]
      have fvO : Fl vO := by
        rcases (S0.gown _ m0).1 with ⟨e, _⟩ | ⟨_, _, e, _⟩
        · rw [show vO = _ from e]; exact fl_slice
        · rw [show vO = _ from e]; exact fl_slice
      refine step_u (S.store (i := 6) rfl Tryz.s48 (by intro x e; cases e) rfl (by simp only [vcells, List.drop_succ_cons, List.drop_zero, List.take_succ_cons, List.take_zero, List.all_cons, List.all_nil, fvO.2.1, Bool.and_true]; rfl) (lbt rfl) ono) ?_
      clear S; rintro h ⟨S, _⟩
      simp only [List.set_cons_zero, List.set_cons_succ, vcells, lay, List.take, List.drop, List.nil_append, List.cons_append, List.append_nil, List.length_cons, List.length_nil, Nat.reduceAdd, Nat.add_zero] at S
      simp only [BS]
      replace S := (S0.rebase S).permL (L' := dfrL dbs ++ [(bk, _), (b9, _), (br, _), (bc, _), (ba, _), (bd, _), (b8, _)]) List.perm_append_comm
      subst hd
      refine leave_gen (un_dfrs dbs _ S fun h' S' => ?_)
      have lT := S'.lds (b := b8) (o := 0) (n := 3) m6 (lbt rfl)
      refine ⟨rfl, _, rr_cell (by decide) (by simp only [setR_at, r8, ptr_eq, Nat.reduceEqDiff, reduceIte]; exact loadV_aggr Tryz.a48 Tryz.s48 lT), S'.gr, ?_⟩
      refine ⟨_, _, _, D, aL, O, rfl, ?_, ?_, ?_, lA, dj.done (hb2 rfl) n2, ?_, dj.nd, dj.lt⟩
      · refine .inr ⟨bd, 0, none, γ.nodes, by rw [List.length_map, List.length_range], by rw [List.length_map, List.length_range]; exact Nat.le_refl _, ?_⟩
        have := (S'.row (b := bd) m5).load (o := 0) (n := ((List.range γ.nodes).map D).length * 1) (by rw [nats_len]; omega)
        rw [this, List.drop_zero, List.take_of_length_le (by rw [nats_len]; omega)]; rfl
      · refine .inr ⟨ba, 0, none, γ.nodes, by rw [lA], by rw [lA]; exact Nat.le_refl _, ?_⟩
        have := (S'.row (b := ba) m4).load (o := 0) (n := aL.length * 1) (by rw [ints_len]; omega)
        rw [this, List.drop_zero, List.take_of_length_le (by rw [ints_len]; omega)]; rfl
      · exact (S'.gown _ m0).1.sl rfl encN_len (by decide)
      · rintro c (h | h | h)
        · have h : bd = c := h
          subst h; exact ((S'.own _ m5).1).elim (fun h => h) (fun h => h.elim)
        · have h : ba = c := h
          subst h; exact ((S'.own _ m4).1).elim (fun h => h) (fun h => h.elim)
        · exact ((S'.gblk m0 h).1).elim (fun h => h) (fun h => h.elim)
    | true =>
      simp only [if_true] at H
      obtain ⟨hk, hmin⟩ := hb1 rfl
      obtain ⟨_, n, rfl, _, _⟩ := dj.i3 v key hk
      obtain ⟨dj2, hvO, hvN, hnb⟩ := dj.pop hk hmin
      have lk := lookI_v (x := (v : Int)) Tryz.u123 Tryz.u3 (z := .int .i64 0) (by kernel_rfl) (show hS.get bc = some (.map es c) from (S.own _ m3).2) MI
      rw [CF v, if_neg hvO, Option.getD_none] at lk
      have w1 : wrapI .i64 1 = 1 := rfl
      simp only [BS, LB, Nat.reduceLT, Nat.reduceEqDiff, Int.reduceAdd, Tryz.FFf548, r9, r10, r12, lk, w1, S.ld (b := b9) (o := 0) (by repeat constructor) rfl, S.ld (b := br) (o := 4) (by repeat constructor) rfl]
      refine step_u (S.mputI (i := 3) rfl Tryz.u123 Tryz.u3 MI _) ?_
      clear S; rintro h ⟨_, es', c', MI', S⟩
      simp only [List.set_cons_zero, List.set_cons_succ] at S
      simp only [BS]
      refine draw_step (hoist_no rfl) (q := 0) (ps := []) (by kernel_rfl) ?_
      simp only [BS, LB, cls, Nat.reduceLT, Nat.reduceEqDiff, Nat.reduceAdd, Nat.reducePow, Nat.reduceDiv, Nat.reduceMod, Nat.reduceLeDiff, Tryz.FFf548, r9, r10, r11, hvN, S.ld (b := b9) (o := 0) (by repeat constructor) rfl, S.ld (b := br) (o := 1) (by repeat constructor) rfl, S.ld (b := bk) (o := 0) (by repeat constructor) rfl]
      refine dn_u (store_fl S (i := 5) rfl Tryz.s2 fl_int (by rw [nats_len, List.length_map, List.length_range]; exact hvN) ono) ?_
      clear S; rintro h ⟨S, _⟩
      simp only [List.set_cons_zero, List.set_cons_succ] at S
      have eD : (nats ((List.range γ.nodes).map D)).set v (.int .i64 (n : Nat)) = nats ((List.range γ.nodes).map fun u => if u = v then n else D u) := by
        rw [nats_map, nats_map, List.map_map, List.map_map]
        have := mapr_set (N := γ.nodes) (k := v) (F := (fun (x : Nat) => Value.int .i64 x) ∘ D) (F' := (fun (x : Nat) => Value.int .i64 x) ∘ fun u => if u = v then n else D u) (fun u _ hu => by simp [hu])
        rw [← this]; simp
      rw [eD] at S
      simp only [BS, LB, Nat.reduceAdd]
      refine draw_step (hoist_no rfl) (q := 128) (ps := [(0, 8)]) (by kernel_rfl) ?_
      simp only [BS, LB, cls, Nat.reduceLT, Nat.reduceEqDiff, Nat.reduceAdd, Nat.reducePow, Nat.reduceDiv, Nat.reduceMod, Nat.reduceLeDiff, Tryz.FFf548, r9, r10, S.ld (b := b9) (o := 0) (by repeat constructor) rfl, S.ld (b := br) (o := 3) (by repeat constructor) rfl]
      refine dq_newS (bs_new (by first | exact Tryz.u24 | exact Tryz.u31 | exact Tryz.u126) (by first | exact Tryz.e2E | exact Tryz.e3E | exact Tryz.e31E) (by decide) (by first | rfl | exact fillE )) S ?_; clear S; intro h bs S n_bs e_bs; simp only [repL, setL, vcells, List.cons_append, List.nil_append, List.append_nil, List.set_cons_zero, List.set_cons_succ, Nat.reduceMul, Nat.reduceAdd, Nat.zero_mul, Nat.zero_add, Nat.mul_one, Nat.one_mul] at S
      simp only [BS, LB, cls, Nat.reduceLT, Nat.reduceEqDiff, Nat.reduceAdd, Nat.reducePow, Nat.reduceDiv, Nat.reduceMod, Nat.reduceLeDiff]
      have src : srcCells h 1 (.slice (some ⟨bs, 0, none⟩) 1 1) = some (1, nats [v]) := by simp only [srcCells]; rw [S.lds (b := bs) (o := 0) (n := 1 * 1) m0 (lbt rfl)]; rfl
      replace S := S.drop1
      refine dn_v (S.grow (j := 0) (m := 1) (new := nats [v]) rfl Tryz.u31 Tryz.e3E (by decide) Tryz.n31 src rfl (by decide) rfl (by rw [nats_len, nats_len]; have := dj.len; simp; omega)) ?_
      clear S src; rintro h vO' S
      simp only [List.set_cons_zero, ← nats_app] at S
      have fvO : Fl vO' := by
        rcases (S.gown _ m0).1 with ⟨e, _⟩ | ⟨_, _, e, _⟩
        · rw [show vO' = _ from e]; exact fl_slice
        · rw [show vO' = _ from e]; exact fl_slice
      simp only [BS, LB, cls, Nat.reduceLT, Nat.reduceEqDiff, Nat.reduceAdd, Nat.reducePow, Nat.reduceDiv, Nat.reduceMod, Nat.reduceLeDiff, Tryz.FFf548]
      refine dn_u (store_fl S (i := 2) rfl Tryz.s31 fvO (Nat.lt_of_succ_le (lbt rfl)) ono) ?_
      clear S; rintro h ⟨S, _⟩
      simp only [List.set_cons_zero, List.set_cons_succ] at S
      simp only [BS, LB, Nat.reduceLT, Nat.reduceEqDiff, Nat.reduceAdd, r0, r2, r10]
      have pv : vO = .slice none 0 0 ∨ ∃ c n, vO = .slice (some ⟨c, 0, some 1⟩) n n ∧ c ≠ b9 := by
        rcases (S0.gown _ m0).1 with ⟨e, _⟩ | ⟨c, n, e, _⟩
        · exact .inl e
        · refine .inr ⟨c, n, e, fun h => ?_⟩
          exact (S0.gblk (c := c) m0 (by rw [show vO = _ from e]; rfl)).2 (by subst h; exact List.mem_map_of_mem (f := Prod.fst) m1)
      refine ⟨?_, ?_⟩
      · clear ih
        rcases pv with rfl | ⟨cO, nO, rfl, hne⟩
        · simp only [pairs_cons, pairs_nil, entry_noted, entry_hit, entry_miss, ne_eq, not_false_eq_true, note_load, note_run, note_alloc, noted_some, ll_tmp, ll_put, setR_at, Nat.reduceLT, Nat.reduceEqDiff, reduceIte, Bool.and_true, r9, ptr_eq, note_app, noteSl, pair_x, entry_nl, noted_none]
        · simp only [pairs_cons, pairs_nil, entry_noted, entry_hit, entry_miss, ne_eq, not_false_eq_true, note_load, note_run, note_alloc, noted_some, ll_tmp, ll_put, setR_at, Nat.reduceLT, Nat.reduceEqDiff, reduceIte, Bool.and_true, r9, ptr_eq, note_app, noteSl, pair_bb hne, pair_bb hne.symm]
      have kO : ∀ c ∈ keys ((bk, Ob.row [.int .i64 (n : Nat)] 1) :: (b9, .row [ptrTo br] 1) :: (br, .row [ptrTo bP, .slice (some ⟨bd, 0, none⟩) γ.nodes γ.nodes, .slice (some ⟨ba, 0, none⟩) γ.nodes γ.nodes, vO, .map (some bc)] 1) :: (bc, .map es c) :: (ba, .row (ints aL) 1) :: (bd, .row (nats ((List.range γ.nodes).map D)) 1) :: (b8, .row [.slice none 0 0, .slice none 0 0, .slice none 0 0] 1) :: dfrL dbs) [(vO, 1, nats O)], c < hS.n := fun c hc => S0.key_lt hc
      have kS := fun {c} hc => S.key_lt (b := c) hc
      have ge0 := (S0.rebase S).gr.n
      refine step_ret (hN _ nb S.ok (hn.gr (S0.rebase S).gr) v hvN) ?_
      rintro vl h ⟨g, sl, hcl⟩
      have kn := S.fr.n
      have gn := g.n
      replace S := S.call g; clear g
      simp only [BS, LB, Nat.reduceLT, Nat.reduceEqDiff, r3]
      have kn2 := S.fr.n
      have lvl := fun {c} hc => sl.lt S.ok (b := c) hc
      refine step_ret (arcs_ok' S.ok fl_ptr sl.fl fl_func) ?_; intro v h ⟨g, b1, b2, b3, e, q1, q2, q3, y1, y2, y3⟩; replace S := S.call g; replace sl := sl.gr g; clear g
      subst e
      simp only [BS]
      have hH := H.mo S.fr (fun c hc hm => (hF c hc).2 hm)
      have lFS := H.lt S0.ok
      refine run_range S (g := 112) (a := #[]) (b := #[ptrTo b1, ptrTo b2, ptrTo b3]) (by simp [ll_tmp, setR, ptr_eq]) rfl rfl ?_
      intro h2 db lb S' hdb hlb g2
      have R1 := S0.rebase S'
      obtain ⟨X, hX, R1⟩ : ∃ X : ALoop, X = _ ∧ St NoM h0 h2 ((lb, .loop X) :: (db, .dfr) :: (bk, Ob.row [.int .i64 (n : Nat)] 1) :: (b9, .row [ptrTo br] 1) :: (br, .row [ptrTo bP, .slice (some ⟨bd, 0, none⟩) γ.nodes γ.nodes, .slice (some ⟨ba, 0, none⟩) γ.nodes γ.nodes, vO', .map (some bc)] 1) :: (bc, .map es' c') :: (ba, .row (ints aL) 1) :: (bd, .row (nats ((List.range γ.nodes).map fun u => if u = v then n else D u)) 1) :: (b8, .row [.slice none 0 0, .slice none 0 0, .slice none 0 0] 1) :: dfrL dbs) [(vO', 1, nats (O ++ [v]))] := ⟨_, rfl, R1⟩
      have CF' : ClF (O ++ [v]) (updF f (v : Int) (some (.int .i64 1))) := fun u => by
        unfold updF
        by_cases e : u = v
        · subst e; simp
        · have e' : ¬ ((u : Int) = (v : Int)) := by omega
          rw [if_neg e', CF u]
          simp [e]
      have hJ : Yld Tryz.abEnv lb (fun k h' F' => ∃ K' Fh aL', St NoM h0 h' ((lb, .loop X) :: (db, .dfr) :: (bk, Ob.row [.int .i64 (n : Nat)] 1) :: (b9, .row [ptrTo br] 1) :: (br, .row [ptrTo bP, .slice (some ⟨bd, 0, none⟩) γ.nodes γ.nodes, .slice (some ⟨ba, 0, none⟩) γ.nodes γ.nodes, vO', .map (some bc)] 1) :: (bc, .map es' c') :: (ba, .row (ints aL') 1) :: (bd, .row (nats ((List.range γ.nodes).map fun u => if u = v then n else D u)) 1) :: (b8, .row [.slice none 0 0, .slice none 0 0, .slice none 0 0] 1) :: dfrL dbs) [(vO', 1, nats (O ++ [v]))] ∧
          HeapAt h' Fh (ptrTo bP) γ.nodes K' ∧ (∀ c ∈ Fh, h0.n ≤ c ∧ c ∉ keys ((lb, .loop X) :: (db, .dfr) :: (bk, Ob.row [.int .i64 (n : Nat)] 1) :: (b9, .row [ptrTo br] 1) :: (br, .row [ptrTo bP, .slice (some ⟨bd, 0, none⟩) γ.nodes γ.nodes, .slice (some ⟨ba, 0, none⟩) γ.nodes γ.nodes, vO', .map (some bc)] 1) :: (bc, .map es' c') :: (ba, .row (ints aL') 1) :: (bd, .row (nats ((List.range γ.nodes).map fun u => if u = v then n else D u)) 1) :: (b8, .row [.slice none 0 0, .slice none 0 0, .slice none 0 0] 1) :: dfrL dbs) [(vO', 1, nats (O ++ [v]))]) ∧
          aL'.length = γ.nodes ∧ Dj (seen γ.arcs fs ft) s γ.nodes (O ++ [v]) (fun u => if u = v then n else D u) K' (fun a => ∃ id ∈ (outs γ.arcs fs γ.arcs.length v).drop k, (seen γ.arcs fs ft).getD id default = a) ∧
          F' = keys ((lb, .loop X) :: (db, .dfr) :: (bk, Ob.row [.int .i64 (n : Nat)] 1) :: (b9, .row [ptrTo br] 1) :: (br, .row [ptrTo bP, .slice (some ⟨bd, 0, none⟩) γ.nodes γ.nodes, .slice (some ⟨ba, 0, none⟩) γ.nodes γ.nodes, vO', .map (some bc)] 1) :: (bc, .map es' c') :: (ba, .row (ints aL') 1) :: (bd, .row (nats ((List.range γ.nodes).map fun u => if u = v then n else D u)) 1) :: (b8, .row [.slice none 0 0, .slice none 0 0, .slice none 0 0] 1) :: dfrL dbs) [(vO', 1, nats (O ++ [v]))] ++ Fh) (fun _ _ => False) (arcXs γ.arcs ft (outs γ.arcs fs γ.arcs.length v)) := by
        clear ih S' R1 y1 y2 y3 hH S g2 H hF sl
        refine ⟨?_, ?_, fun _ _ h => h.elim, ?_⟩
        · rintro k h F' ⟨K', Fh, aL', S, H, hF, _, _, rfl⟩
          exact ⟨S.ok, fun b hb => (List.mem_append.1 hb).elim (fun hb => S.key_lt hb) (fun hb => H.lt S.ok b hb)⟩
        · rintro k h F' h' ⟨K', Fh, aL', S, H, q⟩ g
          exact ⟨K', Fh, aL', S.call g, H.gr g, q⟩
        · rintro k x h F' hx ⟨K', Fh, aL', S, H, hF, lA', dj', rfl⟩
          have hkl : k < (outs γ.arcs fs γ.arcs.length v).length := by
            have := (List.getElem?_eq_some_iff.1 hx).1
            simpa [arcXs] using this
          unfold arcXs at hx
          rw [List.getElem?_map, List.getElem?_eq_getElem hkl] at hx
          cases hx
          have hm := mem_outs.1 (List.getElem_mem hkl)
          rw [List.drop_eq_getElem_cons hkl] at dj'
          generalize (outs γ.arcs fs γ.arcs.length v)[k] = id at hm dj'
          obtain ⟨hid, hfs⟩ := hm
          subst hX
          refine round_run (S.get m0) (by rw [Tryz.e48]; rfl) rfl ?_
          have S1 := S
          replace S := S.base
          simp only [BS, LB, Nat.reduceLT, Nat.reduceEqDiff, Tryz.FFf548]
          refine step_newS allocR_new S ?_; clear S; intro h b14 S n_b14
          simp only [BS, LB, Nat.reduceLT, Nat.reduceEqDiff, Int.cast_ofNat_Int, encA]
          first | refine step_u (S.store (i := 0) rfl ?_ ?_ rfl rfl ?_ ono) ?_ | refine step_u (S.store (i := 1) rfl ?_ ?_ rfl rfl ?_ ono) ?_ | refine step_u (S.store (i := 2) rfl ?_ ?_ rfl rfl ?_ ono) ?_ | refine step_u (S.store (i := 3) rfl ?_ ?_ rfl rfl ?_ ono) ?_ | refine step_u (S.store (i := 4) rfl ?_ ?_ rfl rfl ?_ ono) ?_ | refine step_u (S.store (i := 5) rfl ?_ ?_ rfl rfl ?_ ono) ?_ | refine step_u (S.store (i := 6) rfl ?_ ?_ rfl rfl ?_ ono) ?_ | refine step_u (S.store (i := 7) rfl ?_ ?_ rfl rfl ?_ ono) ?_
          · exact (by first | exact Tryz.s7 | exact Tryz.s8 | exact Tryz.s13 | exact Tryz.s14 | exact Tryz.s27 | exact Tryz.s48 | exact Tryz.s51 | exact Tryz.s128 | exact Tryz.s136 | exact Tryz.s166 | exact Tryz.s168 | exact Tryz.s237 | exact Tryz.s238 | exact Tryz.s240 | exact Tryz.s248)
          · exact (by intro x e; cases e)
          · exact lbt rfl
          clear S; rintro h ⟨S, mo⟩; clear mo; simp only [List.set_cons_zero, List.set_cons_succ, vcells, lay, List.take, List.drop, List.nil_append, List.cons_append, List.append_nil, List.length_cons, List.length_nil, Nat.reduceAdd, Nat.add_zero] at S
          simp only [BS]
          refine assign_end S (i := 1) rfl rfl rfl rfl rfl ?_
          clear S; intro h S
          simp only [List.set_cons_zero, List.set_cons_succ] at S
          have amem : γ.arcs.getD id default ∈ γ.arcs := by rw [List.getD_eq_getElem?_getD, List.getElem?_eq_getElem hid]; exact List.getElem_mem hid
          have aok := hγ.arcs _ amem
          have hol : O.length * WMAX ≤ 12 * WMAX := Nat.mul_le_mul_right _ (Nat.le_trans dj.len n2)
          have wmax := WMAX_eq
          have wn : wrapI .i64 ((n : Int) + ((γ.arcs.getD id default).w : Int)) = ((n + (γ.arcs.getD id default).w : Nat) : Int) := by rw [wrap64] <;> omega
          simp only [BS, LB, Nat.reduceLT, Nat.reduceEqDiff, Tryz.FFf548, r9, r11, wn, S.ld (b := b9) (o := 0) (by repeat constructor) rfl, S.ld (b := b14) (o := 1) (by repeat constructor) rfl, S.ld (b := b14) (o := 2) (by repeat constructor) rfl, S.ld (b := bk) (o := 0) (by repeat constructor) rfl]
          have hH := H.mo S.fr (fun c hc hm => (hF c hc).2 hm)
          have lF2 := H.lt S1.ok
          have d3 : br ≠ ba := fun e => by
            have ap := S1.apart
            subst e
            simp only [keys, List.map_cons, List.cons_append, List.nodup_cons, List.mem_cons] at ap
            exact ap.2.2.2.2.1 (.inr (.inl trivial))
          replace S := S.mono (M' := fun c => c ∈ keys _ _ ∨ c ∈ Fh) (fun _ h => .inl h)
          refine step_ret (reach_ok S.ok (arc := id) (far := n + (γ.arcs.getD id default).w) (S.row m5) hH (by omega) (S.own _ m6).2 MI' CF' (S.row m7) lA' (hft _ amem) (fun h => (hF ba h).2 (by simp [keys])) (fun h => (hF br h).2 (by simp [keys])) d3) ?_
          rintro r h ⟨f1, F2, aL2, H2, hF2, hA2, lA2, rel⟩
          have kq := fun {c} hc => S.key_lt (b := c) hc
          have qn := S.fr.n
          have S2 := S.callF (i := 7) (Fh := Fh) rfl f1 (fun c hc => ⟨.inl (.inr hc), fun hm => by
            rcases List.mem_cons.1 hm with e | hm
            · have := lF2 c hc; omega
            · exact (hF c hc).2 hm⟩) (o' := .row _ 1) hA2
          simp only [List.set_cons_zero, List.set_cons_succ] at S2
          clear S
          simp only [BS]
          have S := S2.base
          refine round_normal S (i := 1) rfl ?_
          clear S; intro h S
          simp only [List.set_cons_zero, List.set_cons_succ] at S
          have H3 := H2.mo S.fr (fun c hc hm => by
            rcases hF2 c hc with h1 | h1
            · rcases List.mem_cons.1 hm with e | hm
              · have := lF2 c h1; omega
              · exact (hF c h1).2 hm
            · have := kq hm; omega)
          have S3 := S2.rebase S
          refine .inl ⟨rfl, _, ⟨_, F2, aL2, S1.rebaseF (fun c hc => .inl (hF c hc).1) S3.drop1, H3, fun c hc => ?_, lA2, ?_, rfl⟩, S3.fr.mono (fun c hc => List.mem_append.2 hc), fun c hc => ?_⟩
          · rcases hF2 c hc with h1 | h1
            · exact hF c h1
            · refine ⟨Nat.le_trans S1.fr.n (Nat.le_trans qn h1), fun hm => ?_⟩
              have := kq (List.mem_cons_of_mem _ hm)
              omega
          · obtain ⟨e1, e2⟩ := seen_at (fs := fs) (ft := ft) hid
            have := dj'.relaxed (ex' := fun a => ∃ id' ∈ (outs γ.arcs fs γ.arcs.length v).drop (k + 1), (seen γ.arcs fs ft).getD id' default = a) e2 (by rw [e1]; show fs _ ∈ _; rw [hfs]; simp) (by rw [e1]; exact hft _ amem) (by rw [e1]; simp only [hfs, if_true]; rw [List.length_append, List.length_singleton, Nat.succ_mul]; omega) (fun b hb hx => by
              by_cases eb : b = (seen γ.arcs fs ft).getD id default
              · exact .inr eb
              · left
                rintro ⟨i, hi, rfl⟩
                rcases List.mem_cons.1 hi with e | hi
                · subst e; exact eb rfl
                · exact hx ⟨i, hi, rfl⟩)
            simp only [e1, hfs, if_true] at this
            exact this
          · rcases List.mem_append.1 hc with hc | hc
            · exact .inl (List.mem_append_left _ hc)
            · rcases hF2 c hc with h1 | h1
              · exact .inl (List.mem_append_right _ h1)
              · exact .inr (Nat.le_trans qn h1)
      have hkeep := (S0.rebase S).gr
      have hol2 := outs_len γ.arcs fs γ.arcs.length v
      have hgm := hγ.many
      refine callq_mono (iter_useN (arcs_it (hq := h0) ok S.ok hkeep.keep hkeep.n hn sl (fun id hid => (mem_outs.1 hid).1) (by omega) hE y1 y2 y3) (fun _ _ h => h) hJ (h := h2) (F := keys ((lb, .loop X) :: (db, .dfr) :: (bk, Ob.row [.int .i64 (n : Nat)] 1) :: (b9, .row [ptrTo br] 1) :: (br, .row [ptrTo bP, .slice (some ⟨bd, 0, none⟩) γ.nodes γ.nodes, .slice (some ⟨ba, 0, none⟩) γ.nodes γ.nodes, vO', .map (some bc)] 1) :: (bc, .map es' c') :: (ba, .row (ints aL) 1) :: (bd, .row (nats ((List.range γ.nodes).map fun u => if u = v then n else D u)) 1) :: (b8, .row [.slice none 0 0, .slice none 0 0, .slice none 0 0] 1) :: dfrL dbs) [(vO', 1, nats (O ++ [v]))] ++ F) g2.fr (fun b hb hlt => ?_)
        ⟨updK K v none, F, aL, R1, hH.gr g2, fun c hc => ⟨(hF c hc).1, fun hm => ?_⟩, lA, dj2.exm (fun a ha hs => ?_), rfl⟩) fun o rc h' y => range_all y ?_
      · rcases List.mem_append.1 hb with hb' | hb'
        · have k2 := (R1.key_own hb').elim (fun h => h) (fun h => h.elim)
          rcases List.mem_cons.1 hb' with e | hb'
          · simp only [] at e; omega
          · rcases List.mem_cons.1 hb' with e | hb'
            · simp only [] at e; omega
            · have k1 := kS hb'
              rintro (h | h | h | h | h)
              · omega
              · omega
              · omega
              · have := hcl b h; omega
              · omega
        · have k1 := lFS b hb'
          have k2 := (hF b hb').1
          rintro (h | h | h | h | h)
          · omega
          · omega
          · omega
          · have := hcl b h; omega
          · omega
      · have k1 := lFS c hc
        have knh := S.fr.n
        rcases List.mem_cons.1 hm with e | hm
        · simp only [] at e; omega
        · rcases List.mem_cons.1 hm with e | hm
          · simp only [] at e; omega
          · rcases S.key_own hm with h1 | h1
            · omega
            · exact (hF c hc).2 h1
      · obtain ⟨i, hi, e⟩ := seen_mem ha
        refine ⟨i, ?_, e⟩
        rw [List.drop_zero]
        refine mem_outs.2 ⟨hi, ?_⟩
        have := (seen_at (fs := fs) (ft := ft) hi).1
        rw [e] at this
        rw [this] at hs
        exact hs
      · rintro Fx ⟨K', Fh', aL', T, H', hF', lA', dj', rfl⟩
        clear hJ R1 y1 y2 y3 hH S' S
        rw [show (arcXs γ.arcs ft (outs γ.arcs fs γ.arcs.length v)).length = (outs γ.arcs fs γ.arcs.length v).length by simp [arcXs], List.drop_length] at dj'
        replace dj' := dj'.exm (ex' := fun _ => False) (fun a _ h => by obtain ⟨i, hi, _⟩ := h; cases hi)
        subst hX
        refine ⟨_, T.get m0, Nat.zero_ne_one, ?_⟩
        have hF2 : ∀ c ∈ Fh', c ≠ lb := fun c hc e => (hF' c hc).2 (by rw [e]; exact m0)
        have H2 := H'.mo ((Mo.refl (M := (· = lb)) T.ok).put (.inr rfl) .dead) hF2
        replace T := T.dead
        replace hF' := fun c hc => And.intro (hF' c hc).1 (fun hm => (hF' c hc).2 (List.mem_cons_of_mem _ hm))
        have S := T.base
        show Run _ _ _ _ _ _ _ _
        simp only [BS, Nat.reduceLT, Nat.reduceEqDiff, if_false, Tryz.FFf548, r11, S.ld (b := bk) (o := 0) (by repeat constructor) rfl]
        refine step_newS allocR_new S ?_; clear S; intro h bk2 S n_bk2
        simp only [BS, LB, Nat.reduceLT, Nat.reduceEqDiff, r11]
        first | refine step_u (store_fl S (i := 0) rfl ?_ ?_ ?_ ono) ?_ | refine step_u (store_fl S (i := 1) rfl ?_ ?_ ?_ ono) ?_ | refine step_u (store_fl S (i := 2) rfl ?_ ?_ ?_ ono) ?_ | refine step_u (store_fl S (i := 3) rfl ?_ ?_ ?_ ono) ?_ | refine step_u (store_fl S (i := 4) rfl ?_ ?_ ?_ ono) ?_ | refine step_u (store_fl S (i := 5) rfl ?_ ?_ ?_ ono) ?_ | refine step_u (store_fl S (i := 6) rfl ?_ ?_ ?_ ono) ?_ | refine step_u (store_fl S (i := 7) rfl ?_ ?_ ?_ ono) ?_
        · exact (by simp only [Tryz.FFf548])
        · exact (by first | exact fl_int | exact fl_slice | exact fl_ptr | exact fl_bool | exact fl_map | exact fl_func | exact fl_nili | exact fl_iface | exact fl_nilf | exact fl_str | assumption)
        · exact Nat.lt_of_succ_le (lbt rfl)
        clear S; rintro h ⟨S, mo⟩; clear mo; simp only [List.set_cons_zero, List.set_cons_succ, vcells, lay, List.take, List.drop, List.nil_append, List.cons_append, List.append_nil, List.length_cons, List.length_nil, Nat.reduceAdd, Nat.add_zero] at S
        simp only [BS, LB, Nat.reduceLT, Nat.reduceEqDiff, Tryz.FFf548, r9, S.ld (b := b9) (o := 0) (by repeat constructor) rfl, S.ld (b := br) (o := 0) (by repeat constructor) rfl]
        have H3 := H2.mo S.fr (fun c hc hm => (hF' c hc).2 hm)
        have lF3 := H2.lt T.ok
        have hF3 : ∀ c ∈ Fh', h0.n ≤ c ∧ c ∉ keys ([(bk2, Ob.row [.int .i64 (n : Nat)] 1), (b9, .row [ptrTo br] 1), (br, .row [ptrTo bP, .slice (some ⟨bd, 0, none⟩) γ.nodes γ.nodes, .slice (some ⟨ba, 0, none⟩) γ.nodes γ.nodes, vO', .map (some bc)] 1), (bc, .map es' c'), (ba, .row (ints aL') 1), (bd, .row (nats ((List.range γ.nodes).map fun u => if u = v then n else D u)) 1), (b8, .row [.slice none 0 0, .slice none 0 0, .slice none 0 0] 1)] ++ dfrL (db :: dbs)) [(vO', 1, nats (O ++ [v]))] := fun c hc => by
          refine ⟨(hF' c hc).1, fun hm => ?_⟩
          have h1 := (hF' c hc).2
          have h2 := lF3 c hc
          simp [keys, dfrL] at hm
          rcases hm with h | h | h | h | h | h | h | h | h | h
          · omega
          all_goals exact h1 (by simp [keys, dfrL, h])
        replace S := (T.rebase S).sub (L' := (bk2, Ob.row [.int .i64 (n : Nat)] 1) :: (db, .dfr) :: (b9, .row [ptrTo br] 1) :: (br, .row [ptrTo bP, .slice (some ⟨bd, 0, none⟩) γ.nodes γ.nodes, .slice (some ⟨ba, 0, none⟩) γ.nodes γ.nodes, vO', .map (some bc)] 1) :: (bc, .map es' c') :: (ba, .row (ints aL') 1) :: (bd, .row (nats ((List.range γ.nodes).map fun u => if u = v then n else D u)) 1) :: (b8, .row [.slice none 0 0, .slice none 0 0, .slice none 0 0] 1) :: dfrL dbs) (G' := [(vO', 1, nats (O ++ [v]))]) (.cons_cons _ (.cons_cons _ (List.sublist_cons_self _ _))) (List.Sublist.refl _)
        replace S := S.permL (L' := [(bk2, Ob.row [.int .i64 (n : Nat)] 1), (b9, .row [ptrTo br] 1), (br, .row [ptrTo bP, .slice (some ⟨bd, 0, none⟩) γ.nodes γ.nodes, .slice (some ⟨ba, 0, none⟩) γ.nodes γ.nodes, vO', .map (some bc)] 1), (bc, .map es' c'), (ba, .row (ints aL') 1), (bd, .row (nats ((List.range γ.nodes).map fun u => if u = v then n else D u)) 1), (b8, .row [.slice none 0 0, .slice none 0 0, .slice none 0 0] 1)] ++ dfrL (db :: dbs)) (.cons _ (by
          show (List.append [_, _, _, _, _, _] ((db, Ob.dfr) :: dfrL dbs)).Perm _
          exact List.perm_middle))
        clear T H' H2 hF'
        have T := S.baseF Fh'
        refine step_ret (heapPop2_ok S.ok H3 (by omega)) ?_
        rintro rr h3 ⟨v3, k3, b3', rfl, f3, H4, hb1', hb2'⟩
        replace S := S.rebaseF (fun c hc => .inl (hF3 c hc).1) (T.stepF f3 (fun c hc => ⟨.inl (.inr hc), (hF3 c hc).2⟩))
        simp only [BS, LB, Nat.reduceLT, Nat.reduceEqDiff, r11]
        clear T
        have T := S
        replace S := S.base
        simp only [List.cons_append, List.nil_append] at S
        first | refine step_u (store_fl S (i := 0) rfl ?_ ?_ ?_ ono) ?_ | refine step_u (store_fl S (i := 1) rfl ?_ ?_ ?_ ono) ?_ | refine step_u (store_fl S (i := 2) rfl ?_ ?_ ?_ ono) ?_ | refine step_u (store_fl S (i := 3) rfl ?_ ?_ ?_ ono) ?_ | refine step_u (store_fl S (i := 4) rfl ?_ ?_ ?_ ono) ?_ | refine step_u (store_fl S (i := 5) rfl ?_ ?_ ?_ ono) ?_ | refine step_u (store_fl S (i := 6) rfl ?_ ?_ ?_ ono) ?_ | refine step_u (store_fl S (i := 7) rfl ?_ ?_ ?_ ono) ?_
        · exact (by simp only [Tryz.FFf548])
        · exact (by first | exact fl_int | exact fl_slice | exact fl_ptr | exact fl_bool | exact fl_map | exact fl_func | exact fl_nili | exact fl_iface | exact fl_nilf | exact fl_str | assumption)
        · exact Nat.lt_of_succ_le (lbt rfl)
        clear S; rintro h ⟨S, mo⟩; clear mo; simp only [List.set_cons_zero, List.set_cons_succ, vcells, lay, List.take, List.drop, List.nil_append, List.cons_append, List.append_nil, List.length_cons, List.length_nil, Nat.reduceAdd, Nat.add_zero] at S
        simp only [BS, LB, Nat.reduceLT, Nat.reduceEqDiff]
        have H5 := H4.mo S.fr (fun c hc hm => (hF3 c hc).2 hm)
        replace S := T.rebase S
        subst hd
        have hlO : (O ++ [v]).length = O.length + 1 := by simp
        have hlO2 := dj'.len
        refine ih (O ++ [v]) _ _ _ (by omega) ⟨db :: dbs, _, K', Fh', es', c', _, aL', vO', bk2, v3, k3, b3', rfl, S, hF3, lA', MI', CF', dj', H5, hb1', hb2', ?_⟩
        refine ⟨by simp [setR, r0, ptr_eq], by simp [setR, r2, ptr_eq], by simp [setR, r3, ptr_eq], by simp [setR, r8, ptr_eq], by simp [setR, r9, ptr_eq], by simp [setR], by simp [setR, ptr_eq], by simp [setR]⟩
  · have e1 : nats ((List.range γ.nodes).map fun _ => FAR) = List.replicate γ.nodes (.int .i64 72057594037927936) := by
      rw [nats_map, List.map_const', List.length_range, List.map_replicate]; rfl
    have e2 : ints (List.replicate γ.nodes (-1)) = List.replicate γ.nodes (.int .i64 (-1)) := by
      rw [ints_map, List.map_replicate]
    have S3 := S1.rebaseF (fun c hc => .inl (hF1' c hc).1) (S2.rebase S)
    have nn := S2.fr.n
    refine ⟨[], fun _ => FAR, updK (fun _ => none) s (some 0), F1, [], 0, fun _ => none, List.replicate γ.nodes (-1), .slice none 0 0, bk, v, k, b, rfl, ?_, ?_, by simp, mapI_nil, fun u => by simp, dj, H3, hb1, hb2, ?_⟩
    · rw [e1, e2]; exact S3
    · rw [e1, e2]
      intro c hc
      refine ⟨(hF1' c hc).1, fun hm => ?_⟩
      have h1 := (hF1' c hc).2
      have h2 := lF1 c hc
      simp [keys, gkey, dfrL] at hm h1
      omega
    · refine ⟨by simp [setR, ptr_eq, argR_zero, argR_succ], by simp [setR, ptr_eq, argR_zero, argR_succ], by simp [setR, ptr_eq, argR_zero, argR_succ], by simp [setR, ptr_eq, argR_zero, argR_succ], by simp [setR, ptr_eq, argR_zero, argR_succ], by simp [setR, ptr_eq, argR_zero, argR_succ], by simp [setR, ptr_eq, argR_zero, argR_succ], by simp [setR, ptr_eq, argR_zero, argR_succ]⟩
end Go.Ab

end
section
namespace Go.Ab
open Go.Proofs
set_option maxRecDepth 10000
open Tryz in
def Tryz.FFf652 := aj a1 <| aj s1 <| aj z1 <| aj n1 <| aj u2 <| aj a2 <| aj s2 <| aj z2 <| aj i2 <| aj u3 <| aj a3 <| aj s3 <| aj z3 <| aj i3 <| aj a51 <| aj s51 <| aj z51 <| aj i51 <| aj n51 <| aj p51 <| aj ff51 <| d51
open Tryz in
def Tryz.FFf650 := aj a1 <| aj s1 <| aj z1 <| aj n1 <| aj u2 <| aj a2 <| aj s2 <| aj z2 <| aj i2 <| aj u3 <| aj a3 <| aj s3 <| aj z3 <| aj i3 <| aj a51 <| aj s51 <| aj z51 <| aj i51 <| aj n51 <| aj p51 <| aj ff51 <| d51
open Tryz in
def Tryz.FFf620 := aj a1 <| aj s1 <| aj z1 <| aj n1 <| aj u2 <| aj a2 <| aj s2 <| aj z2 <| aj i2 <| aj u3 <| aj a3 <| aj s3 <| aj z3 <| aj i3 <| aj u24 <| aj a24 <| aj s24 <| aj z24 <| aj q24 <| aj n24 <| aj a27 <| aj s27 <| aj z27 <| aj i27 <| aj n27 <| aj p27 <| aj ff27 <| aj d27 <| aj u29 <| aj a29 <| aj s29 <| aj z29 <| aj q29 <| aj i29 <| aj n29 <| aj u31 <| aj a31 <| aj s31 <| aj z31 <| aj q31 <| aj n31 <| aj a48 <| aj s48 <| aj z48 <| aj i48 <| aj n48 <| aj p48 <| aj ff48 <| aj d48 <| aj a96 <| aj s96 <| aj z96 <| aj n96 <| aj a97 <| aj s97 <| aj z97 <| aj n97 <| aj u126 <| aj a126 <| aj s126 <| aj z126 <| aj q126 <| aj n126 <| aj a128 <| aj s128 <| aj z128 <| aj i128 <| aj n128 <| aj p128 <| aj ff128 <| d128
open Tryz in
def Tryz.FFf619 := aj a1 <| aj s1 <| aj z1 <| aj n1 <| aj u2 <| aj a2 <| aj s2 <| aj z2 <| aj i2 <| aj u3 <| aj a3 <| aj s3 <| aj z3 <| aj i3 <| aj u24 <| aj a24 <| aj s24 <| aj z24 <| aj q24 <| aj n24 <| aj a27 <| aj s27 <| aj z27 <| aj i27 <| aj n27 <| aj p27 <| aj ff27 <| aj d27 <| aj u29 <| aj a29 <| aj s29 <| aj z29 <| aj q29 <| aj i29 <| aj n29 <| aj u31 <| aj a31 <| aj s31 <| aj z31 <| aj q31 <| aj n31 <| aj a48 <| aj s48 <| aj z48 <| aj i48 <| aj n48 <| aj p48 <| aj ff48 <| aj d48 <| aj a96 <| aj s96 <| aj z96 <| aj n96 <| aj a97 <| aj s97 <| aj z97 <| aj n97 <| aj u126 <| aj a126 <| aj s126 <| aj z126 <| aj q126 <| aj n126 <| aj a128 <| aj s128 <| aj z128 <| aj i128 <| aj n128 <| aj p128 <| aj ff128 <| d128
theorem fromKey : KeyF Tryz.abEnv 52 Arc.t := by
  intro h0 a ok
  have S := St.init (M := NoM) ok
  refine enter_ret (n := 5) (rs := [.tmp 2]) rfl Tryz.e52 rfl rfl rfl (lbt rfl) ?_
  simp only [BS, Nat.reduceLT, encA]
  refine step_newS (box_new (by intro x e; cases e)) S ?_; clear S; intro h b S n_b; simp only [vcells] at S
  simp only [BS, LB, tupleOf, Nat.reduceLT, Nat.reduceEqDiff, Tryz.FFf652, S.ld (b := b) (o := 1) (by repeat constructor) rfl]
  exact S.gr
theorem toKey : KeyF Tryz.abEnv 50 Arc.s := by
  intro h0 a ok
  have S := St.init (M := NoM) ok
  refine enter_ret (n := 5) (rs := [.tmp 2]) rfl Tryz.e50 rfl rfl rfl (lbt rfl) ?_
  simp only [BS, Nat.reduceLT, encA]
  refine step_newS (box_new (by intro x e; cases e)) S ?_; clear S; intro h b S n_b; simp only [vcells] at S
  simp only [BS, LB, tupleOf, Nat.reduceLT, Nat.reduceEqDiff, Tryz.FFf650, S.ld (b := b) (o := 0) (by repeat constructor) rfl]
  exact S.gr
theorem fromNext {γ : Gra} (hγ : Good γ) {pn : Value} : NextF Tryz.abEnv 51 γ pn Arc.s := fun h nb ok hn v hv => netOut_ok ok hn (by have := hγ.many; omega) hv
theorem toNext {γ : Gra} (hγ : Good γ) {pn : Value} : NextF Tryz.abEnv 49 γ pn Arc.t := fun h nb ok hn v hv => netIn_ok ok hn (by have := hγ.many; omega) hv
theorem floodFrom_ok {h0 : Hp} (ok : h0.t.Sized h0.n) {γ : Gra} (hγ : Good γ) {pn : Value} {nb : Nat} (hn : NetAt h0 nb pn γ) {s : Nat} (hs : s < γ.nodes) :
    Ret Tryz.abEnv 20 [pn, .int .i64 s] h0 fun r h' => Gr h0 h' ∧ TreeAt h' h0.n r (seen γ.arcs Arc.s Arc.t) s γ.nodes := by
  have S := St.init (M := NoM) ok
  refine enter_ret (n := 10) (rs := [.cell 4 48]) rfl Tryz.e20 rfl rfl rfl (lbt rfl) ?_
  simp only [BS, Tryz.FFf620]
  refine step_newS allocR_new S ?_; clear S; intro h b4 S n_b4
  simp only [BS, LB, Nat.reduceLT, Nat.reduceEqDiff]
  have k0 := S.fr.n
  have lt4 := (S.row (b := b4) m0).lt S.ok
  refine step_ret (flood_ok S.ok hγ (hn.gr S.gr) hs (fromNext hγ) fromKey (fun a ha => (hγ.arcs a ha).2.1)) ?_; intro v h ⟨g, T⟩; replace S := S.call g; clear g
  obtain ⟨vD, vA, vO, D, aL, O, rfl, s1, s2, s3, t4, t5, t6, t7, t8⟩ := T
  have f1 := s1.fl
  have f2 := s2.fl
  have f3 := s3.fl
  have q1 : ∀ c, blkOf vD c ∨ blkOf vA c ∨ blkOf vO c → c ≠ b4 := fun c hc e => by have := t6 c hc; omega
  simp only [BS, LB, Nat.reduceLT, Nat.reduceEqDiff]
  refine step_u (S.store (i := 0) rfl Tryz.s48 (by intro x e; cases e) rfl (by simp only [vcells, List.all_cons, List.all_nil, f1.2.1, f2.2.1, f3.2.1, Bool.and_true]) (lbt rfl) ono) ?_
  clear S; rintro h ⟨S, mo⟩
  simp only [List.set_cons_zero, List.set_cons_succ, vcells, lay, List.take, List.drop, List.nil_append, List.cons_append, List.append_nil, List.length_cons, List.length_nil, Nat.reduceAdd, Nat.add_zero] at S
  simp only [BS, tupleOf]
  refine (res_cell (by decide) (by simp only [setR_at, ptr_eq, Nat.reduceEqDiff, reduceIte]; exact loadV_aggr Tryz.a48 Tryz.s48 (S.lds (b := b4) (o := 0) (n := 3) m0 (lbt rfl)))).2 (res_nil.2 ?_)
  exact ⟨S.gr, vD, vA, vO, D, aL, O, rfl, s1.mo mo (fun c hc => q1 c (.inl hc)), s2.mo mo (fun c hc => q1 c (.inr (.inl hc))), s3.mo mo (fun c hc => q1 c (.inr (.inr hc))), t4, t5, fun c hc => Nat.le_trans k0 (t6 c hc), t7, t8⟩
theorem floodTo_ok {h0 : Hp} (ok : h0.t.Sized h0.n) {γ : Gra} (hγ : Good γ) {pn : Value} {nb : Nat} (hn : NetAt h0 nb pn γ) {s : Nat} (hs : s < γ.nodes) :
    Ret Tryz.abEnv 19 [pn, .int .i64 s] h0 fun r h' => Gr h0 h' ∧ TreeAt h' h0.n r (seen γ.arcs Arc.t Arc.s) s γ.nodes := by
  have S := St.init (M := NoM) ok
  refine enter_ret (n := 10) (rs := [.cell 4 48]) rfl Tryz.e19 rfl rfl rfl (lbt rfl) ?_
  simp only [BS, Tryz.FFf619]
  refine step_newS allocR_new S ?_; clear S; intro h b4 S n_b4
  simp only [BS, LB, Nat.reduceLT, Nat.reduceEqDiff]
  have k0 := S.fr.n
  have lt4 := (S.row (b := b4) m0).lt S.ok
  refine step_ret (flood_ok S.ok hγ (hn.gr S.gr) hs (toNext hγ) toKey (fun a ha => (hγ.arcs a ha).1)) ?_; intro v h ⟨g, T⟩; replace S := S.call g; clear g
  obtain ⟨vD, vA, vO, D, aL, O, rfl, s1, s2, s3, t4, t5, t6, t7, t8⟩ := T
  have f1 := s1.fl
  have f2 := s2.fl
  have f3 := s3.fl
  have q1 : ∀ c, blkOf vD c ∨ blkOf vA c ∨ blkOf vO c → c ≠ b4 := fun c hc e => by have := t6 c hc; omega
  simp only [BS, LB, Nat.reduceLT, Nat.reduceEqDiff]
  refine step_u (S.store (i := 0) rfl Tryz.s48 (by intro x e; cases e) rfl (by simp only [vcells, List.all_cons, List.all_nil, f1.2.1, f2.2.1, f3.2.1, Bool.and_true]) (lbt rfl) ono) ?_
  clear S; rintro h ⟨S, mo⟩
  simp only [List.set_cons_zero, List.set_cons_succ, vcells, lay, List.take, List.drop, List.nil_append, List.cons_append, List.append_nil, List.length_cons, List.length_nil, Nat.reduceAdd, Nat.add_zero] at S
  simp only [BS, tupleOf]
  refine (res_cell (by decide) (by simp only [setR_at, ptr_eq, Nat.reduceEqDiff, reduceIte]; exact loadV_aggr Tryz.a48 Tryz.s48 (S.lds (b := b4) (o := 0) (n := 3) m0 (lbt rfl)))).2 (res_nil.2 ?_)
  exact ⟨S.gr, vD, vA, vO, D, aL, O, rfl, s1.mo mo (fun c hc => q1 c (.inl hc)), s2.mo mo (fun c hc => q1 c (.inr (.inl hc))), s3.mo mo (fun c hc => q1 c (.inr (.inr hc))), t4, t5, fun c hc => Nat.le_trans k0 (t6 c hc), t7, t8⟩
end Go.Ab

end
section
namespace Go.Ab
open Go.Proofs
set_option maxRecDepth 10000
def wy (x : Int) : Int := min (max x 0) 72057594037927936
end Go.Ab

end
section
namespace Go.Ab
structure YldP (E : Env) (lb : Nat) (J : Nat → Hp → List Nat → Prop) (n : Nat) (P : Nat → Hp → List Nat → List Value → Prop) : Prop where
  lt : ∀ i h F, J i h F → h.t.Sized h.n ∧ ∀ b ∈ F, b < h.n
  gr : ∀ i h F h', J i h F → Gr h h' → J i h' F
  round : ∀ i x h F, i < n → P i h F x → J i h F → RoundQ E lb x h fun o h' => o = .ret (.bool true) ∧ ∃ F', J (i + 1) h' F' ∧ Mo (· ∈ F) h h' ∧ ∀ b ∈ F', b ∈ F ∨ h.n ≤ b
def IterP (E : Env) (g : FuncId) (post : List Value) (h0 : Hp) (D : Nat → Prop) (n : Nat) (P : Nat → Hp → List Nat → List Value → Prop) : Prop :=
  ∀ lb J, YldP E lb J n P → ∀ h F, ItS h0 D h F → J 0 h F → CallQ E g (.func (.yield lb) #[] #[] :: post) none h fun o rc h' => rc = none ∧ ∃ u F', o = .ret u ∧ J n h' F'
theorem yieldP_step {E : Env} {cx : Cx} {o : Oper} {l : Loc} {K : Ex → Loc → Hp → Prop} {h0 h : Hp} {D : Nat → Prop} {lb i n : Nat} {J : Nat → Hp → List Nat → Prop} {P : Nat → Hp → List Nat → List Value → Prop} {x : List Value} {F : List Nat}
    (Y : YldP E lb J n P) (s : ItS h0 D h F) (hj : J i h F) (hi : i < n) (hx : P i h F x)
    (k1 : ∀ h' F', J (i + 1) h' F' → ItS h0 D h' F' → Mo (· ∈ F) h h' → (∀ b ∈ F', b ∈ F ∨ h.n ≤ b) → K .normal (l.put o.dst (.bool true)) h') : StepR E cx o l K (some (.yield lb x, h)) := by
  refine step_round (Y.round i x h F hi hx hj) ?_
  rintro q h' ⟨rfl, F', a, b, c⟩
  exact k1 h' F' a (s.mo b c (Y.lt _ _ _ a).2) b c
def encV (w : Value) : List Value := [w]
theorem encV_len (w : Value) : (encV w).length = 1 := rfl
theorem flat_encV (l : List Value) : l.flatMap encV = l := by
  induction l with
  | nil => rfl
  | cons x l ih => rw [List.flatMap_cons, ih]; rfl
def LLAt (h : Hp) (m : Nat) (v : Value) (n : Nat) (R : Nat → List Int) : Prop :=
  ∃ ws : List Value, SlAt h 1 encV v ws ∧ ws.length = n ∧ (∀ c, blkOf v c → m ≤ c) ∧ ∀ i w, ws[i]? = some w → SlAt h 1 (encI .i64) w (R i) ∧ ∀ c, blkOf w c → m ≤ c
theorem LLAt.mo {M : Nat → Prop} {h h' : Hp} {m n : Nat} {v : Value} {R : Nat → List Int} (r : LLAt h m v n R) (g : Mo M h h') (hm : ∀ b, M b → b < m) : LLAt h' m v n R := by
  obtain ⟨ws, a, b, c, d⟩ := r
  exact ⟨ws, a.mo g (fun x hx hM => by have := c x hx; have := hm x hM; omega), b, c, fun i w hw => ⟨(d i w hw).1.mo g (fun x hx hM => by have := (d i w hw).2 x hx; have := hm x hM; omega), (d i w hw).2⟩⟩
theorem LLAt.gr {h h' : Hp} {m n : Nat} {v : Value} {R : Nat → List Int} (r : LLAt h m v n R) (g : Gr h h') : LLAt h' m v n R := r.mo (M := NoM) g.fr (fun _ h => h.elim)
theorem LLAt.low {h : Hp} {m m' n : Nat} {v : Value} {R : Nat → List Int} (r : LLAt h m v n R) (hm : m' ≤ m) : LLAt h m' v n R := by
  obtain ⟨ws, a, b, c, d⟩ := r
  exact ⟨ws, a, b, fun x hx => Nat.le_trans hm (c x hx), fun i w hw => ⟨(d i w hw).1, fun x hx => Nat.le_trans hm ((d i w hw).2 x hx)⟩⟩
theorem LLAt.row {h : Hp} {m n : Nat} {v : Value} {R : Nat → List Int} (r : LLAt h m v n R) {i : Nat} (hi : i < n) : ∃ w, (∃ c o, idxS (some 1) v (.int .i64 (i : Nat)) = some (.pointer (some ⟨c, o, none⟩)) ∧ h.load c o 1 = some [w]) ∧ SlAt h 1 (encI .i64) w (R i) ∧ ∀ c, blkOf w c → m ≤ c := by
  obtain ⟨ws, a, b, c, d⟩ := r
  obtain ⟨q, o, e1, e2⟩ := a.ix (kd := .i64) encV_len (i := i) (by omega)
  have hw : ws[i]? = some ws[i] := List.getElem?_eq_getElem (by omega)
  exact ⟨ws[i], ⟨q, o, e1, e2⟩, (d i _ hw).1, (d i _ hw).2⟩
theorem flat_nat (l : List Nat) : l.flatMap encN = (l.map fun (x : Nat) => (x : Int)).flatMap (encI .i64) := by
  induction l with
  | nil => rfl
  | cons x l ih => rw [List.flatMap_cons, List.map_cons, List.flatMap_cons, ih]; rfl
theorem sl_nat {h : Hp} {v : Value} {l : List Nat} (s : SlAt h 1 encN v l) : SlAt h 1 (encI .i64) v (l.map fun (x : Nat) => (x : Int)) := by
  rcases s with ⟨rfl, rfl⟩ | ⟨b, o, s, c, rfl, h2, h3⟩
  · exact .inl ⟨rfl, rfl⟩
  · refine .inr ⟨b, o, s, c, by rw [List.length_map], by rw [List.length_map]; exact h2, ?_⟩
    rw [List.length_map, h3, flat_nat]
def MayL (N : Nat) (l : List Int) : Prop := l.length ≤ 16 ∧ ∀ i, i < l.length → 0 ≤ l.getD i 0 ∧ l.getD i 0 < N ∧ l.getD i 0 ∉ l.take i
theorem MayL.push {N : Nat} {l : List Int} (h : MayL N l) (hl : l.length < 16) {x : Int} (h0 : 0 ≤ x) (hN : x < N) (hx : x ∉ l) : MayL N (l ++ [x]) := by
  refine ⟨by simp; omega, fun i hi => ?_⟩
  simp at hi
  by_cases e : i = l.length
  · subst e
    have e1 : (l ++ [x]).getD l.length 0 = x := by simp [List.getD_eq_getElem?_getD]
    rw [e1, List.take_left']
    exact ⟨h0, hN, hx⟩
    rfl
  · have hil : i < l.length := by omega
    have e1 : (l ++ [x]).getD i 0 = l.getD i 0 := by simp [List.getD_eq_getElem?_getD, List.getElem?_append_left hil]
    rw [e1, List.take_append_of_le_length (by omega)]
    exact h.2 i hil
structure TabAt (h : Hp) (m : Nat) (p : Value) (N : Nat) (marks : List Int) (R Q : Nat → List Int) : Prop where
  ex : ∃ b vM vT vF, p = ptrTo b ∧ Row h b [.int .i64 N, vM, vT, vF] 1 ∧ SlAt h 1 (encI .i64) vM marks ∧ LLAt h m vT marks.length R ∧ LLAt h m vF marks.length Q ∧ m ≤ b ∧ ∀ c, blkOf vM c → m ≤ c
theorem TabAt.mo {M : Nat → Prop} {h h' : Hp} {m N : Nat} {p : Value} {marks : List Int} {R Q : Nat → List Int} (t : TabAt h m p N marks R Q) (g : Mo M h h') (hm : ∀ b, M b → b < m) : TabAt h' m p N marks R Q := by
  obtain ⟨b, vM, vT, vF, e, h1, h2, h3, h4, h5, h6⟩ := t.ex
  exact ⟨b, vM, vT, vF, e, g.has (o := .row _ 1) h1 (fun h => by have := hm _ h; omega), h2.mo g (fun x hx hM => by have := h6 x hx; have := hm x hM; omega), h3.mo g hm, h4.mo g hm, h5, h6⟩
theorem TabAt.gr {h h' : Hp} {m N : Nat} {p : Value} {marks : List Int} {R Q : Nat → List Int} (t : TabAt h m p N marks R Q) (g : Gr h h') : TabAt h' m p N marks R Q := t.mo (M := NoM) g.fr (fun _ h => h.elim)
end Go.Ab

end
section
namespace Go.Ab
open Go.Proofs
set_option maxRecDepth 10000
open Tryz in
def Tryz.FFtb177 := aj a1 <| aj s1 <| aj z1 <| aj n1 <| aj u2 <| aj a2 <| aj s2 <| aj z2 <| aj i2 <| aj u3 <| aj a3 <| aj s3 <| aj z3 <| aj i3 <| aj u4 <| aj a4 <| aj s4 <| aj z4 <| aj n4 <| aj u123 <| aj a123 <| aj s123 <| aj z123 <| n123
open Tryz in
def Tryz.FFtb1106 := aj a1 <| aj s1 <| aj z1 <| aj n1 <| aj u2 <| aj a2 <| aj s2 <| aj z2 <| aj i2 <| aj u3 <| aj a3 <| aj s3 <| aj z3 <| aj i3 <| aj u4 <| aj a4 <| aj s4 <| aj z4 <| aj n4 <| aj u5 <| aj a5 <| aj s5 <| aj z5 <| aj i5 <| aj u6 <| aj a6 <| aj s6 <| aj z6 <| aj i6 <| aj a7 <| aj s7 <| aj z7 <| aj i7 <| aj n7 <| aj p7 <| aj ff7 <| aj d7 <| aj u31 <| aj a31 <| aj s31 <| aj z31 <| aj q31 <| aj n31 <| aj a124 <| aj s124 <| aj z124 <| n124
open Tryz in
def Tryz.FFtb132 := aj a1 <| aj s1 <| aj z1 <| aj n1 <| aj u2 <| aj a2 <| aj s2 <| aj z2 <| aj i2 <| aj u3 <| aj a3 <| aj s3 <| aj z3 <| aj i3 <| aj u4 <| aj a4 <| aj s4 <| aj z4 <| aj n4 <| aj u31 <| aj a31 <| aj s31 <| aj z31 <| aj q31 <| aj n31 <| aj u123 <| aj a123 <| aj s123 <| aj z123 <| aj n123 <| aj a124 <| aj s124 <| aj z124 <| n124
theorem may1_ok {h0 : Hp} (ok : h0.t.Sized h0.n) {b5 b2 bm c N k : Nat} {x : Int} {es : List (Value × Value × Nat)} {f : Int → Option Value} (e5 : h0.load b5 0 1 = some [.map (some bm)]) (e2 : h0.load b2 0 1 = some [.int .i64 N]) (hm : h0.get bm = some (.map es c)) (MI : MapI es c f) (hf : (f x).getD (.int .i64 0) = .int .i64 k) (hk : k ≤ 1) (n5 : b5 ≠ bm) (n2 : b2 ≠ bm) :
    Ret Tryz.abEnv 77 [.int .i64 x, ptrTo b5, ptrTo b2] h0 fun r h' => Mo (· = bm) h0 h' ∧ r = .bool (decide (x < 0 ∨ (N : Int) ≤ x ∨ k = 1)) ∧ ∃ es' c', h'.get bm = some (.map es' c') ∧ MapI es' c' (updF f x (some (.int .i64 (k + 1 : Nat)))) := by
  have S := St.init1 ok (o := .map es c) hm
  have lk := lookI_v (x := x) Tryz.u123 Tryz.u3 (z := .int .i64 0) (by kernel_rfl) hm MI
  rw [hf] at lk
  have w : wrapI .i64 ((k : Int) + 1) = ((k + 1 : Nat) : Int) := by rw [wrap64] <;> omega
  refine enter_ret (n := 22) (rs := [.tmp 4]) rfl Tryz.e77 rfl rfl rfl (lbt rfl) ?_
  simp only [BS, LB, Nat.reduceLT, Nat.reduceEqDiff, Tryz.FFtb177, e5, lk, w]
  refine step_u (S.mputI (i := 0) rfl Tryz.u123 Tryz.u3 MI _) ?_
  clear S; rintro h ⟨_, es', c', MI', S⟩
  simp only [List.set_cons_zero] at S
  have e5' := S.old e5 n5
  have e2' := S.old e2 n2
  have hg : h.get bm = some (.map es' c') := (S.own _ m0).2
  have lk2 := lookI_v (x := x) Tryz.u123 Tryz.u3 (z := .int .i64 0) (by kernel_rfl) hg MI'
  rw [show updF f x (some (.int .i64 ((k + 1 : Nat) : Int))) x = some (.int .i64 ((k + 1 : Nat) : Int)) by unfold updF; rw [if_pos rfl], Option.getD_some] at lk2
  by_cases c1 : x < 0
  · simp only [BS, LB, tupleOf, Nat.reduceLT, Nat.reduceEqDiff, c1]
    exact ⟨S.fr, by simp [c1], es', c', hg, MI'⟩
  · by_cases c2 : (N : Int) ≤ x
    · simp only [BS, LB, tupleOf, Nat.reduceLT, Nat.reduceEqDiff, Tryz.FFtb177, e2', c1, c2]
      exact ⟨S.fr, by simp [c2], es', c', hg, MI'⟩
    · by_cases c3 : k = 1
      · subst c3
        simp only [BS, LB, tupleOf, Nat.reduceLT, Nat.reduceEqDiff, Nat.reduceAdd, Int.reduceLT, Int.cast_ofNat_Int, Tryz.FFtb177, e5', e2', c1, c2, lk2]
        exact ⟨S.fr, by simp, es', c', hg, MI'⟩
      · have k0 : k = 0 := by omega
        subst k0
        simp only [BS, LB, tupleOf, Nat.reduceLT, Nat.reduceEqDiff, Int.reduceLT, Int.cast_ofNat_Int, Tryz.FFtb177, e5', e2', c1, c2, lk2]
        exact ⟨S.fr, by simp [c1, c2], es', c', hg, MI'⟩
def OkAt (N : Nat) (l : List Int) (i : Nat) : Prop := 0 ≤ l.getD i 0 ∧ l.getD i 0 < N ∧ l.getD i 0 ∉ l.take i
theorem mayIdx_ok {h0 : Hp} (ok : h0.t.Sized h0.n) {b5 b2 bm N : Nat} {v : Value} {l : List Int} (hv : SlAt h0 1 (encI .i64) v l) (hl : l.length ≤ 1000) (e5 : h0.load b5 0 1 = some [.map (some bm)]) (e2 : h0.load b2 0 1 = some [.int .i64 N]) (hm : h0.get bm = some (.map [] 0)) (n5 : b5 ≠ bm) (n2 : b2 ≠ bm) :
    Ret Tryz.abEnv 106 [v, .func (.func 77) #[] #[ptrTo b5, ptrTo b2]] h0 fun r h' => Mo (· = bm) h0 h' ∧ ∃ z, r = .int .i64 z ∧ (0 ≤ z ↔ ¬ ∀ i, i < l.length → OkAt N l i) := by
  have hvb : ∀ c, blkOf v c → ¬ c = bm := by
    rintro c hc rfl
    rcases hv with ⟨rfl, _⟩ | ⟨b, o, s, c', rfl, _, h3⟩
    · exact hc.elim
    · have : b = c := hc
      subst this
      simp [Hp.load, hm] at h3
  refine enter_ret (n := 19) (rs := [.tmp 4]) rfl Tryz.e106 rfl rfl rfl (lbt rfl) ?_
  simp only [BS, LB, Nat.reduceLT, Nat.reduceEqDiff, Tryz.FFtb1106, hv.lenq]
  refine loop_ind (fun (i : Nat) ρ h => i ≤ l.length ∧ Mo (· = bm) h0 h ∧ (∃ es c f, h.get bm = some (.map es c) ∧ MapI es c f ∧ ∀ x, f x = if x ∈ l.take i then some (.int .i64 1) else none) ∧ (∀ j, j < i → OkAt N l j) ∧ ρ 0 = v ∧ ρ 1 = .func (.func 77) #[] #[ptrTo b5, ptrTo b2] ∧ ρ 7 = .int .i64 l.length ∧ ρ 8 = .int .i64 i) (fun i => l.length - i) ?_ 0 _ _ ?_
  · intro i ih ρ h ⟨hi, mo, ⟨es, c, f, hg, MI, hf⟩, hok, r0, r1, r7, r8⟩
    by_cases hlt : i < l.length
    · obtain ⟨q, o, hidx, hld⟩ := (hv.mo mo hvb).ix (kd := .i64) (encI_len .i64) hlt
      have w : wrapI .i64 ((i : Int) + 1) = ((i + 1 : Nat) : Int) := by rw [wrap64] <;> omega
      have ld : ∀ {b : Nat} {x}, b ≠ bm → h0.load b 0 1 = some x → h.load b 0 1 = some x := fun hne e => by
        have := mo.get _ (lt_of_load mo.ok0 e) hne
        unfold Hp.load at e ⊢
        rw [this]; exact e
      have gd : l.getD i 0 = l[i] := by simp [List.getD_eq_getElem?_getD, hlt]
      simp only [BS, LB, Nat.reduceLT, Nat.reduceEqDiff, Tryz.FFtb1106, r0, r1, r7, r8, lt_nat, hlt, hidx, hld, encI]
      refine step_ret (may1_ok mo.ok (x := l[i]) (N := N) (k := if l[i] ∈ l.take i then 1 else 0) (ld n5 e5) (ld n2 e2) hg MI (by rw [hf]; split <;> rfl) (by split <;> omega) n5 n2) ?_
      rintro r h' ⟨f1, rfl, es', c', hg', MI'⟩
      have mo' := mo.trans f1 (fun _ h => .inl h)
      by_cases hw : OkAt N l i
      · have e : decide (l[i] < 0 ∨ (N : Int) ≤ l[i] ∨ (if l[i] ∈ l.take i then 1 else 0) = 1) = false := by
          obtain ⟨w1, w2, w3⟩ := hw
          rw [gd] at w1 w2 w3
          rw [if_neg w3]
          simp; omega
        rw [e]
        have nm : l[i] ∉ l.take i := by have := hw.2.2; rwa [gd] at this
        simp only [BS, LB, Nat.reduceLT, Nat.reduceEqDiff, r8, w]
        refine ih (i + 1) _ _ (by omega) ⟨by omega, mo', ⟨es', c', _, hg', MI', fun x => ?_⟩, fun j hj => ?_, by simp [setR, r0], by simp [setR, r1, ptr_eq], by simp [setR, r7], by simp [setR]⟩
        · have et := List.take_succ_eq_append_getElem hlt
          rw [if_neg nm]
          unfold updF
          by_cases ex : x = l[i]
          · rw [if_pos ex, if_pos (by rw [et]; exact List.mem_append_right _ (List.mem_singleton.2 ex))]; rfl
          · rw [if_neg ex, hf]
            have : x ∈ l.take (i + 1) ↔ x ∈ l.take i := by rw [et, List.mem_append, List.mem_singleton]; exact ⟨fun h => h.resolve_right ex, .inl⟩
            simp only [this]
        · by_cases e2 : j = i
          · subst e2; exact hw
          · exact hok j (by omega)
      · have e : decide (l[i] < 0 ∨ (N : Int) ≤ l[i] ∨ (if l[i] ∈ l.take i then 1 else 0) = 1) = true := by
          unfold OkAt at hw
          rw [gd] at hw
          simp only [decide_eq_true_eq]
          by_cases nm : l[i] ∈ l.take i
          · rw [if_pos nm]; exact .inr (.inr rfl)
          · by_cases a1 : l[i] < 0
            · exact .inl a1
            · by_cases a2 : (N : Int) ≤ l[i]
              · exact .inr (.inl a2)
              · exact absurd ⟨by omega, by omega, nm⟩ hw
        rw [e]
        simp only [BS, LB, tupleOf, Nat.reduceLT, Nat.reduceEqDiff]
        exact ⟨mo', _, rfl, by simp only [Int.natCast_nonneg, true_iff]; exact fun h => hw (h i hlt)⟩
    · simp only [BS, LB, tupleOf, Nat.reduceLT, Nat.reduceEqDiff, r7, r8, lt_nat, hlt]
      exact ⟨mo, _, rfl, ⟨fun h => by omega, fun h => absurd (fun j hj => hok j (by omega)) h⟩⟩
  · exact ⟨Nat.zero_le _, Mo.refl ok, ⟨[], 0, fun _ => none, hm, mapI_nil, fun x => by simp⟩, fun j hj => by omega, by simp [setR, argR_zero], by simp [setR, argR_zero, argR_succ, ptr_eq], by simp [setR], by simp [setR]⟩
noncomputable instance mayDec (N : Nat) (l : List Int) : Decidable (MayL N l) := Classical.propDecidable _
theorem mayCf_ok {h0 : Hp} (ok : h0.t.Sized h0.n) {b5 b2 bm N : Nat} {v : Value} {l : List Int} (hv : SlAt h0 1 (encI .i64) v l) (hl : l.length ≤ 1000) (e5 : h0.load b5 0 1 = some [.map (some bm)]) (e2 : h0.load b2 0 1 = some [.int .i64 N]) (hm : h0.get bm = some (.map [] 0)) (n5 : b5 ≠ bm) (n2 : b2 ≠ bm) (d : Decidable (∀ i, i < l.length → OkAt N l i)) :
    Ret Tryz.abEnv 78 [v, .func (.func 77) #[] #[ptrTo b5, ptrTo b2]] h0 fun r h' => Mo (· = bm) h0 h' ∧ r = .bool (!decide (∀ i, i < l.length → OkAt N l i)) := by
  refine enter_ret (n := 9) (rs := [.tmp 4]) rfl Tryz.e78 rfl rfl rfl (lbt rfl) ?_
  simp only [BS, LB, Nat.reduceLT, Nat.reduceEqDiff]
  refine step_ret (mayIdx_ok ok hv hl e5 e2 hm n5 n2) ?_
  rintro r h ⟨mo, z, rfl, hz⟩
  by_cases c : ∀ i, i < l.length → OkAt N l i
  · have c2 : ¬ (0 ≤ z) := fun h => hz.1 h c
    simp only [BS, LB, tupleOf, Nat.reduceLT, Nat.reduceEqDiff, c2]
    exact ⟨mo, by rw [decide_eq_true c]; rfl⟩
  · have c2 : 0 ≤ z := hz.2 c
    simp only [BS, LB, tupleOf, Nat.reduceLT, Nat.reduceEqDiff, c2]
    exact ⟨mo, by rw [decide_eq_false c]; rfl⟩
theorem may_ok {h0 : Hp} (ok : h0.t.Sized h0.n) {v : Value} {l : List Int} {N : Nat} (hv : SlAt h0 1 (encI .i64) v l) (hl : l.length ≤ 1000) : Pure Tryz.abEnv 32 [.int .i64 N, v] h0 (.bool (decide (MayL N l))) := by
  have S := St.init (M := NoM) ok
  refine enter_ret (n := 18) (rs := [.tmp 4]) rfl Tryz.e32 rfl rfl rfl (lbt rfl) ?_
  simp only [BS, Nat.reduceLT]
  refine step_newS (box_new (by intro x e; cases e)) S ?_; clear S; intro h b2 S n_b2; simp only [vcells] at S
  simp only [BS]
  refine step_newS map_new S ?_; clear S; intro h bm S n_bm
  simp only [BS, Tryz.FFtb132]
  refine step_newS allocR_new S ?_; clear S; intro h b5 S n_b5
  simp only [BS, LB, Nat.reduceLT, Nat.reduceEqDiff]
  first | refine step_u (store_fl S (i := 0) rfl ?_ ?_ ?_ ono) ?_ | refine step_u (store_fl S (i := 1) rfl ?_ ?_ ?_ ono) ?_ | refine step_u (store_fl S (i := 2) rfl ?_ ?_ ?_ ono) ?_ | refine step_u (store_fl S (i := 3) rfl ?_ ?_ ?_ ono) ?_ | refine step_u (store_fl S (i := 4) rfl ?_ ?_ ?_ ono) ?_ | refine step_u (store_fl S (i := 5) rfl ?_ ?_ ?_ ono) ?_ | refine step_u (store_fl S (i := 6) rfl ?_ ?_ ?_ ono) ?_ | refine step_u (store_fl S (i := 7) rfl ?_ ?_ ?_ ono) ?_
  · exact (by simp only [Tryz.FFtb132])
  · exact (by first | exact fl_int | exact fl_slice | exact fl_ptr | exact fl_bool | exact fl_map | exact fl_func | exact fl_nili | exact fl_iface | exact fl_nilf | exact fl_str | assumption)
  · exact Nat.lt_of_succ_le (lbt rfl)
  clear S; rintro h ⟨S, mo⟩; clear mo; simp only [List.set_cons_zero, List.set_cons_succ, vcells, lay, List.take, List.drop, List.nil_append, List.cons_append, List.append_nil, List.length_cons, List.length_nil, Nat.reduceAdd, Nat.add_zero] at S
  by_cases h16 : l.length ≤ 16
  · have c1 : (l.length : Int) ≤ 16 := by omega
    simp only [BS, LB, Nat.reduceLT, Nat.reduceEqDiff, Tryz.FFtb132, hv.lenq, c1]
    have ap := S.apart
    simp only [keys, List.map_cons, List.map_nil, List.filterMap_nil, List.append_nil, List.nodup_cons, List.mem_cons, List.not_mem_nil, or_false, not_or] at ap
    have d : Decidable (∀ i, i < l.length → OkAt N l i) := Classical.propDecidable _
    refine step_ret (mayCf_ok S.ok (hv.gr S.gr) hl (S.ld (b := b5) (o := 0) m0 rfl) (S.ld (b := b2) (o := 0) m2 rfl) (S.own _ m1).2 ap.1.1 (fun e => ap.2.1 e.symm) d) ?_
    rintro r h ⟨mo, rfl⟩
    have g2 : Gr h0 h := (S.fr.trans mo (fun c hc => .inr (by subst hc; exact n_bm)) : Mo NoM h0 h).gr
    simp only [BS, LB, tupleOf, Nat.reduceLT, Nat.reduceEqDiff]
    refine ⟨?_, g2⟩
    congr 1
    by_cases c : ∀ i, i < l.length → OkAt N l i
    · have : MayL N l := ⟨h16, c⟩
      rw [decide_eq_true c, decide_eq_true this]; rfl
    · have : ¬ MayL N l := fun h => c h.2
      rw [decide_eq_false c, decide_eq_false this]; rfl
  · have c1 : ¬ (l.length : Int) ≤ 16 := by omega
    simp only [BS, LB, tupleOf, Nat.reduceLT, Nat.reduceEqDiff, Tryz.FFtb132, hv.lenq, c1]
    exact ⟨by have : ¬ MayL N l := fun h => h16 h.1; simp [this], S.gr⟩
end Go.Ab

end
section
namespace Go.Ab
open Go.Proofs
set_option maxRecDepth 10000
open Tryz in
def Tryz.FFtb280 := aj a1 <| aj s1 <| aj z1 <| aj n1 <| aj u2 <| aj a2 <| aj s2 <| aj z2 <| aj i2 <| aj u3 <| aj a3 <| aj s3 <| aj z3 <| aj i3 <| aj u4 <| aj a4 <| aj s4 <| aj z4 <| aj n4 <| aj u24 <| aj a24 <| aj s24 <| aj z24 <| aj q24 <| aj n24 <| aj a27 <| aj s27 <| aj z27 <| aj i27 <| aj n27 <| aj p27 <| aj ff27 <| aj d27 <| aj u29 <| aj a29 <| aj s29 <| aj z29 <| aj q29 <| aj i29 <| aj n29 <| aj u31 <| aj a31 <| aj s31 <| aj z31 <| aj q31 <| aj n31 <| aj a48 <| aj s48 <| aj z48 <| aj i48 <| aj n48 <| aj p48 <| aj ff48 <| aj d48 <| aj a49 <| aj s49 <| aj z49 <| aj n49 <| aj a103 <| aj s103 <| aj z103 <| aj n103 <| aj u126 <| aj a126 <| aj s126 <| aj z126 <| aj q126 <| aj n126 <| aj a128 <| aj s128 <| aj z128 <| aj i128 <| aj n128 <| aj p128 <| aj ff128 <| d128
open Tryz in
def Tryz.FFtb279 := aj a1 <| aj s1 <| aj z1 <| aj n1 <| aj u2 <| aj a2 <| aj s2 <| aj z2 <| aj i2 <| aj u3 <| aj a3 <| aj s3 <| aj z3 <| aj i3 <| aj u4 <| aj a4 <| aj s4 <| aj z4 <| aj n4 <| aj u6 <| aj a6 <| aj s6 <| aj z6 <| aj i6 <| aj a7 <| aj s7 <| aj z7 <| aj i7 <| aj n7 <| aj p7 <| aj ff7 <| aj d7 <| aj u24 <| aj a24 <| aj s24 <| aj z24 <| aj q24 <| aj n24 <| aj u34 <| aj a34 <| aj s34 <| aj z34 <| aj q34 <| aj n34 <| aj a83 <| aj s83 <| aj z83 <| n83
open Classical in
noncomputable def dOf (B : List Arc) (s v : Nat) : Nat := if h : ∃ x, IsD B s v x then h.choose else 0
theorem dOf_is {B : List Arc} {s v x : Nat} (h : IsD B s v x) : dOf B s v = x ∧ IsD B s v (dOf B s v) := by
  have he : ∃ x, IsD B s v x := ⟨x, h⟩
  have e : dOf B s v = he.choose := by unfold dOf; rw [dif_pos he]
  rw [e]
  exact ⟨he.choose_spec.uniq h, he.choose_spec⟩
noncomputable def rowD (B : List Arc) (N s : Nat) : List Int := (List.range N).map fun v => ((dOf B s v : Nat) : Int)
theorem rowD_of {B : List Arc} {N s : Nat} {D : Nat → Nat} (h : ∀ v, IsD B s v (D v)) : ((List.range N).map D).map (fun (x : Nat) => (x : Int)) = rowD B N s := by
  unfold rowD
  rw [List.map_map]
  refine List.map_congr_left fun v _ => ?_
  show ((D v : Nat) : Int) = _
  rw [(dOf_is (h v)).1]
def RunF (E : Env) (g : FuncId) (γ : Gra) (pn : Value) (B : List Arc) : Prop := ∀ (h : Hp) (nb : Nat), h.t.Sized h.n → NetAt h nb pn γ → ∀ s, s < γ.nodes → Ret E g [pn, .int .i64 (s : Nat)] h fun r h' => Gr h h' ∧ TreeAt h' h.n r B s γ.nodes
theorem runTo {γ : Gra} (hγ : Good γ) {pn : Value} : RunF Tryz.abEnv 19 γ pn (seen γ.arcs Arc.t Arc.s) := fun h nb ok hn s hs => floodTo_ok ok hγ hn hs
theorem runFrom {γ : Gra} (hγ : Good γ) {pn : Value} : RunF Tryz.abEnv 20 γ pn (seen γ.arcs Arc.s Arc.t) := fun h nb ok hn s hs => floodFrom_ok ok hγ hn hs
def PRow (m : Nat) (R : Nat → List Int) (i : Nat) (h : Hp) (F : List Nat) (x : List Value) : Prop := ∃ w, x = [w] ∧ SlAt h 1 (encI .i64) w (R i) ∧ ∀ c, blkOf w c → m ≤ c ∧ c ∉ F
theorem rows_ok {h0 : Hp} (ok : h0.t.Sized h0.n) {p vl ve : Value} (f1 : Fl p) (f2 : Fl vl) (f3 : Fl ve) : Ret Tryz.abEnv 36 [p, vl, ve] h0 fun v h' => Gr h0 h' ∧ ∃ b1 b2 b3, v = .func (.func 80) #[] #[ptrTo b1, ptrTo b2, ptrTo b3] ∧ h0.n ≤ b1 ∧ h0.n ≤ b2 ∧ h0.n ≤ b3 ∧ h'.load b1 0 1 = some [vl] ∧ h'.load b2 0 1 = some [ve] ∧ h'.load b3 0 1 = some [p] := by
  have S := St.init (M := NoM) ok
  refine enter_ret (n := 8) (rs := [.tmp 6]) rfl Tryz.e36 rfl rfl rfl (lbt rfl) ?_
  simp only [BS, Nat.reduceLT]
  refine step_newS (box_fl (by first | exact fl_int | exact fl_slice | exact fl_ptr | exact fl_bool | exact fl_map | exact fl_func | exact fl_nili | exact fl_iface | exact fl_nilf | exact fl_str | assumption)) S ?_; clear S; intro h b3 S n_b3
  simp only [BS, Nat.reduceLT, Nat.reduceEqDiff, if_false]
  refine step_newS (box_fl (by first | exact fl_int | exact fl_slice | exact fl_ptr | exact fl_bool | exact fl_map | exact fl_func | exact fl_nili | exact fl_iface | exact fl_nilf | exact fl_str | assumption)) S ?_; clear S; intro h b1 S n_b1
  simp only [BS, Nat.reduceLT, Nat.reduceEqDiff, if_false]
  refine step_newS (box_fl (by first | exact fl_int | exact fl_slice | exact fl_ptr | exact fl_bool | exact fl_map | exact fl_func | exact fl_nili | exact fl_iface | exact fl_nilf | exact fl_str | assumption)) S ?_; clear S; intro h b2 S n_b2
  simp only [BS, LB, tupleOf, Nat.reduceLT, Nat.reduceEqDiff]
  exact ⟨S.gr, b1, b2, b3, rfl, n_b1, n_b2, n_b3, S.ld m1 rfl, S.ld m0 rfl, S.ld m2 rfl⟩
theorem rows_it {hq h0 : Hp} (okq : hq.t.Sized hq.n) (ok0 : h0.t.Sized h0.n) (kq : Keep hq h0) (nq : hq.n ≤ h0.n) {pn vl : Value} {γ : Gra} {nb b1 b2 b3 m : Nat} (hn : NetAt hq nb pn γ) {l : List Int} (hl : SlAt h0 1 (encI .i64) vl l) (hok : ∀ i, i < l.length → 0 ≤ l.getD i 0 ∧ l.getD i 0 < γ.nodes) (hlen : l.length < 1000) {g : FuncId} {B : List Arc} (hr : RunF Tryz.abEnv g γ pn B) (hm : m ≤ h0.n)
    (e1 : h0.load b1 0 1 = some [vl]) (e2 : h0.load b2 0 1 = some [.func (.func g) #[] #[]]) (e3 : h0.load b3 0 1 = some [pn]) :
    IterP Tryz.abEnv 80 [ptrTo b1, ptrTo b2, ptrTo b3] h0 (fun c => c = b1 ∨ c = b2 ∨ c = b3 ∨ blkOf vl c ∨ c < hq.n) l.length (PRow m fun i => rowD B γ.nodes (l.getD i 0).toNat) := by
  intro lb J Y h F s hj
  refine enter (n := 22) (rs := []) rfl Tryz.e80 rfl rfl rfl (lbt rfl) ?_
  have l1 := s.load ok0 e1 (.inl rfl)
  simp only [BS, LB, Nat.reduceLT, Tryz.FFtb280, l1, hl.lenq]
  refine loop_ind (fun (i : Nat) ρ h => i ≤ l.length ∧ ∃ F, ItS h0 (fun c => c = b1 ∨ c = b2 ∨ c = b3 ∨ blkOf vl c ∨ c < hq.n) h F ∧ J i h F ∧ ρ 0 = .func (.yield lb) #[] #[] ∧ ρ 2 = ptrTo b2 ∧ ρ 3 = ptrTo b3 ∧ ρ 7 = vl ∧ ρ 8 = .int .i64 l.length ∧ ρ 9 = .int .i64 i) (fun i => l.length - i) ?_ 0 _ _ ?_
  · clear l1
    intro i ih ρ h ⟨hi, F, s, hj, r0, r2, r3, r7, r8, r9⟩
    by_cases hlt : i < l.length
    · obtain ⟨c, o, hidx, hld⟩ := (s.sl ok0 hl (fun b h => .inr (.inr (.inr (.inl h))))).ix (kd := .i64) (encI_len .i64) hlt
      have l2 := s.load ok0 e2 (.inr (.inl rfl))
      have l3 := s.load ok0 e3 (.inr (.inr (.inl rfl)))
      have nt : NetAt h nb pn γ := hn.keep okq (s.keep kq nq (fun c hc => .inr (.inr (.inr (.inr hc)))))
      have w : wrapI .i64 ((i : Int) + 1) = ((i + 1 : Nat) : Int) := by rw [wrap64] <;> omega
      have gd : l.getD i 0 = l[i] := by simp [List.getD_eq_getElem?_getD, hlt]
      have hb := hok i hlt
      rw [gd] at hb
      obtain ⟨mk, emk⟩ : ∃ k : Nat, l[i] = k := ⟨l[i].toNat, by omega⟩
      rw [emk] at hld hb
      simp only [BS, LB, Nat.reduceLT, Nat.reduceEqDiff, Tryz.FFtb280, r0, r2, r3, r7, r8, r9, lt_nat, hlt, hidx, hld, encI, l2, l3]
      refine step_ret (hr h nb s.ok nt mk (by omega)) ?_
      rintro v h2 ⟨g1, vD, vA, vO, D, aL, O, rfl, s1, s2, s3, t4, t5, t6, t7, t8⟩
      simp only [BS, LB, Nat.reduceLT, Nat.reduceEqDiff, Tryz.FFtb280]
      refine yieldP_step Y (s.gr g1) (Y.gr _ _ _ _ hj g1) (i := i) hlt ⟨vD, rfl, ?_, fun c hc => ⟨?_, fun hF => ?_⟩⟩ ?_
      · have := sl_nat s1
        rw [rowD_of t5] at this
        show SlAt h2 1 _ vD (rowD B γ.nodes (l.getD i 0).toNat)
        rw [gd, emk]
        exact this
      · exact Nat.le_trans hm (Nat.le_trans s.n (t6 c (.inl hc)))
      · have h1 := s.lt c hF
        have h2 := t6 c (.inl hc)
        omega
      · intro h' F' a s' _ _
        simp only [BS, LB, Nat.reduceLT, Nat.reduceEqDiff, r9, w]
        exact ih (i + 1) _ _ (by omega) ⟨by omega, F', s', a, by simp [setR, r0], by simp [setR, r2, ptr_eq], by simp [setR, r3, ptr_eq], by simp [setR, r7], by simp [setR, r8], by simp [setR]⟩
    · simp only [BS, LB, Nat.reduceLT, r8, r9, lt_nat, hlt]
      have : i = l.length := by omega
      subst this
      exact leave_genN (un_nil ⟨rfl, _, rfl, rfl, _, F, rfl, hj⟩)
  · exact ⟨by omega, F, s, hj, by simp [setR, argR], by simp [setR, argR, ptr_eq], by simp [setR, argR, ptr_eq], by simp [setR], by simp [setR], by simp [setR]⟩
theorem SlAt.form {α : Type} {h : Hp} {k : Nat} {enc : α → List Value} {v : Value} {xs : List α} (s : SlAt h k enc v xs) : ∃ a n c, v = .slice a n c := by
  rcases s with ⟨rfl, _⟩ | ⟨b, o, s, c, rfl, _⟩ <;> exact ⟨_, _, _, rfl⟩
theorem appendSeq_ok {h0 : Hp} (ok : h0.t.Sized h0.n) {g : FuncId} {post : Array Value} {D : Nat → Prop} {n m : Nat} {R : Nat → List Int} (it : IterP Tryz.abEnv g post.toList h0 D n (PRow m R)) (hm : m ≤ h0.n) (hn : n < 1000) :
    Ret Tryz.abEnv 79 [.slice none 0 0, .func (.func g) #[] post] h0 fun r h' => Gr h0 h' ∧ LLAt h' m r n R := by
  have S := St.init (M := NoM) ok
  refine enter_ret (n := 13) (rs := [.tmp 4]) rfl Tryz.e79 rfl rfl rfl (lbt rfl) ?_
  simp only [BS, Nat.reduceLT]
  refine step_newS (box_fl (by first | exact fl_int | exact fl_slice | exact fl_ptr | exact fl_bool | exact fl_map | exact fl_func | exact fl_nili | exact fl_iface | exact fl_nilf | exact fl_str | assumption)) S ?_; clear S; intro h b2 S n_b2
  simp only [BS, Nat.reduceLT, Nat.reduceEqDiff, if_false]
  replace S := S.nilG (k := 1)
  have g0 := S.gr
  refine run_range S (g := g) (a := #[]) (b := post) (by simp [ll_tmp, setR, argR_zero, argR_succ]) rfl rfl ?_
  intro h2 db lb S' hdb hlb g2
  obtain ⟨X, hX, S'⟩ : ∃ X : ALoop, X = _ ∧ St NoM h0 h2 [(lb, .loop X), (db, .dfr), (b2, .row [.slice none 0 0] 1)] [(.slice none 0 0, 1, [])] := ⟨_, rfl, S'⟩
  have hJ : YldP Tryz.abEnv lb (fun k h' F => ∃ (ws : List Value) (vR : Value), St NoM h0 h' [(lb, .loop X), (db, .dfr), (b2, .row [vR] 1)] [(vR, 1, ws)] ∧ ws.length = k ∧ k ≤ n ∧ (∀ i w, ws[i]? = some w → SlAt h' 1 (encI .i64) w (R i) ∧ ∀ c, blkOf w c → m ≤ c ∧ c ∉ F) ∧ F = keys [(lb, .loop X), (db, .dfr), (b2, .row [vR] 1)] [(vR, 1, ws)]) n (PRow m R) := by
    refine ⟨?_, ?_, ?_⟩
    · rintro i h F ⟨ws, vR, S, _, _, _, rfl⟩; exact ⟨S.ok, fun b hb => S.key_lt hb⟩
    · rintro i h F h' ⟨ws, vR, S, a, b, c, rfl⟩ gg; exact ⟨ws, vR, S.call gg, a, b, fun i w hw => ⟨(c i w hw).1.gr gg, (c i w hw).2⟩, rfl⟩
    · rintro i x hR F hi ⟨w, rfl, sw, hw⟩ ⟨ws, vR, S, a, b, c, rfl⟩
      subst hX
      obtain ⟨wa, wn, wc, rfl⟩ := sw.form
      have fw : Fl (.slice wa wn wc) := fl_slice
      refine round_run (S.get m0) (by rw [Tryz.e79]; rfl) rfl ?_
      have S0 := S
      replace S := S.base
      simp only [BS, LB, Nat.reduceLT, Nat.reduceEqDiff]
      refine assign_end S (i := 0) rfl rfl rfl rfl rfl ?_
      clear S; intro h S
      simp only [List.set_cons_zero] at S
      simp only [BS, LB, Nat.reduceLT, Nat.reduceEqDiff, Tryz.FFtb279, S.ld (b := b2) (o := 0) (by repeat constructor) rfl]
      refine step_newS (bs_new (by first | exact Tryz.u24 | exact Tryz.u34) (by first | exact Tryz.e2E | exact Tryz.e24E) (by decide) (by first | rfl | exact fillE )) S ?_; clear S; intro h bs S n_bs; simp only [repL, setL, vcells, List.cons_append, List.nil_append, List.append_nil, List.set_cons_zero, List.set_cons_succ, Nat.reduceMul, Nat.reduceAdd, Nat.zero_mul, Nat.zero_add, Nat.mul_one, Nat.one_mul] at S
      simp only [BS, LB, Nat.reduceLT, Nat.reduceEqDiff]
      have src : srcCells h 1 (.slice (some ⟨bs, 0, none⟩) 1 1) = some (1, [.slice wa wn wc]) := by simp only [srcCells]; rw [S.lds (b := bs) (o := 0) (n := 1 * 1) m0 (lbt rfl)]; rfl
      replace S := S.drop1
      refine step_v (S.grow (j := 0) (m := 1) (new := [.slice wa wn wc]) rfl Tryz.u34 Tryz.e24E (by decide) Tryz.n34 src rfl (by decide) (by simp [fw.2.1]) (by simp; omega)) ?_
      clear S src; rintro h vR' S
      simp only [List.set_cons_zero] at S
      have fv : Fl vR' := by
        rcases (S.gown _ m0).1 with ⟨e, _⟩ | ⟨_, _, e, _⟩
        · rw [show vR' = _ from e]; exact fl_slice
        · rw [show vR' = _ from e]; exact fl_slice
      simp only [BS, LB, Nat.reduceLT, Nat.reduceEqDiff]
      refine step_u (store_fl S (i := 2) rfl Tryz.s34 fv (Nat.lt_of_succ_le (lbt rfl)) ono) ?_
      clear S; rintro h ⟨S, _⟩
      simp only [List.set_cons_zero, List.set_cons_succ] at S
      simp only [BS]
      refine round_normal S (i := 0) rfl ?_
      clear S; intro h S
      simp only [List.set_cons_zero, List.set_cons_succ] at S
      refine ⟨rfl, _, ⟨ws ++ [.slice wa wn wc], vR', S0.rebase S, by simp [a], by omega, fun j u hu => ?_, rfl⟩, S.fr, S.key_new⟩
      have key : SlAt h 1 (encI .i64) u (R j) ∧ ∀ c, blkOf u c → m ≤ c ∧ c ∉ keys [(lb, Ob.dfr), (db, .dfr), (b2, .dfr)] [(vR, 1, ws)] ∧ c < hR.n := by
        by_cases hj : j < ws.length
        · rw [List.getElem?_append_left hj] at hu
          obtain ⟨q1, q2⟩ := c j u hu
          exact ⟨q1.mo S.fr (fun x hx hM => (q2 x hx).2 hM), fun x hx => ⟨(q2 x hx).1, (q2 x hx).2, q1.lt S0.ok hx⟩⟩
        · rw [List.getElem?_append_right (by omega)] at hu
          have hj2 : j - ws.length = 0 := by
            have := (List.getElem?_eq_some_iff.1 hu).1
            simp at this; omega
          rw [hj2] at hu
          cases hu
          have : j = ws.length := by omega
          subst this
          rw [a]
          exact ⟨sw.mo S.fr (fun x hx hM => (hw x hx).2 hM), fun x hx => ⟨(hw x hx).1, (hw x hx).2, sw.lt S0.ok hx⟩⟩
      refine ⟨key.1, fun x hx => ⟨(key.2 x hx).1, fun hm => ?_⟩⟩
      rcases S.key_new x hm with h1 | h1
      · exact (key.2 x hx).2.1 h1
      · have := (key.2 x hx).2.2; omega
  refine callq_mono (it lb _ hJ h2 _ ?_ ⟨[], _, S', rfl, Nat.zero_le _, fun i w hw => by simp at hw, rfl⟩) ?_
  · exact ⟨S'.ok, S'.fr.n, fun b hb _ => S'.gr.get b hb, fun b hb h => by have := (S'.key_own hb).elim (fun h => h) (fun h => h.elim); omega, fun b hb => S'.key_lt hb⟩
  · rintro o rc h' ⟨rfl, u, F, rfl, ws, vR, T, a, _, c, rfl⟩
    subst hX
    refine ⟨_, T.get m0, Nat.zero_ne_one, ?_⟩
    have c2 : ∀ i w, ws[i]? = some w → SlAt (h'.put lb .dead) 1 (encI .i64) w (R i) ∧ ∀ c, blkOf w c → m ≤ c ∧ c ∉ keys [(db, .dfr), (b2, .row [vR] 1)] [(vR, 1, ws)] := fun i w hw => by
      obtain ⟨q1, q2⟩ := c i w hw
      exact ⟨q1.mo ((Mo.refl (M := (· = lb)) T.ok).put (.inr rfl) .dead) (fun x hx e => (q2 x hx).2 (by rw [e]; exact m0)), fun x hx => ⟨(q2 x hx).1, fun hm => (q2 x hx).2 (List.mem_cons_of_mem _ hm)⟩⟩
    replace T := T.dead
    have S := T
    show Run _ _ _ _ _ _ _ _
    simp only [BS, LB, Nat.reduceLT, Nat.reduceEqDiff, Tryz.FFtb279, S.ld (b := b2) (o := 0) (by repeat constructor) rfl]
    refine leave_gen (un_dfrs [db] _ (L := [(b2, _)]) T.base fun h3 S3 => ⟨rfl, _, rfl, ?_⟩)
    refine ⟨(T.fr.trans S3.fr (fun c hc => (T.key_own hc).symm) : Mo NoM h0 h3).gr, ws, ?_, a, fun x hx => ?_, fun i w hw => ⟨(c2 i w hw).1.mo S3.fr (fun x hx hM => ((c2 i w hw).2 x hx).2 hM), fun x hx => ((c2 i w hw).2 x hx).1⟩⟩
    · exact (S3.gown _ m0).1.sl (flat_encV ws).symm encV_len (by decide)
    · exact Nat.le_trans hm (((T.gblk m0 hx).1).elim (fun h => h) (fun h => h.elim))
theorem collect_ok {h0 : Hp} (ok : h0.t.Sized h0.n) {g : FuncId} {post : Array Value} {D : Nat → Prop} {n m : Nat} {R : Nat → List Int} (it : IterP Tryz.abEnv g post.toList h0 D n (PRow m R)) (hm : m ≤ h0.n) (hn : n < 1000) :
    Ret Tryz.abEnv 35 [.func (.func g) #[] post] h0 fun r h' => Gr h0 h' ∧ LLAt h' m r n R := by
  have S := St.init (M := NoM) ok
  refine enter_ret (n := 5) (rs := [.tmp 2]) rfl Tryz.e35 rfl rfl rfl (lbt rfl) ?_
  simp only [BS, LB, Nat.reduceLT, Nat.reduceEqDiff]
  refine step_ret (appendSeq_ok S.ok it hm hn) ?_; intro v h ⟨g, L⟩; replace S := S.call g; clear g
  simp only [BS, LB, tupleOf, Nat.reduceLT, Nat.reduceEqDiff]
  exact ⟨S.gr, L⟩
end Go.Ab

end
section
namespace Go.Ab
open Go.Proofs
set_option maxRecDepth 10000
open Tryz in
def Tryz.FFtb310 := aj a1 <| aj s1 <| aj z1 <| aj n1 <| aj u2 <| aj a2 <| aj s2 <| aj z2 <| aj i2 <| aj u3 <| aj a3 <| aj s3 <| aj z3 <| aj i3 <| aj u4 <| aj a4 <| aj s4 <| aj z4 <| aj n4 <| aj u24 <| aj a24 <| aj s24 <| aj z24 <| aj q24 <| aj n24 <| aj a27 <| aj s27 <| aj z27 <| aj i27 <| aj n27 <| aj p27 <| aj ff27 <| aj d27 <| aj u29 <| aj a29 <| aj s29 <| aj z29 <| aj q29 <| aj i29 <| aj n29 <| aj u31 <| aj a31 <| aj s31 <| aj z31 <| aj q31 <| aj n31 <| aj u32 <| aj a32 <| aj s32 <| aj z32 <| aj q32 <| aj i32 <| aj n32 <| aj u34 <| aj a34 <| aj s34 <| aj z34 <| aj q34 <| aj n34 <| aj a49 <| aj s49 <| aj z49 <| aj n49 <| aj a83 <| aj s83 <| aj z83 <| aj n83 <| aj a86 <| aj s86 <| aj z86 <| aj i86 <| aj n86 <| aj p86 <| aj ff86 <| aj d86 <| aj u126 <| aj a126 <| aj s126 <| aj z126 <| aj q126 <| aj n126 <| aj a128 <| aj s128 <| aj z128 <| aj i128 <| aj n128 <| aj p128 <| aj ff128 <| d128
open Tryz in
def Tryz.FFtb340 := aj a1 <| aj s1 <| aj z1 <| aj n1 <| aj u2 <| aj a2 <| aj s2 <| aj z2 <| aj i2 <| aj u3 <| aj a3 <| aj s3 <| aj z3 <| aj i3 <| aj u4 <| aj a4 <| aj s4 <| aj z4 <| aj n4 <| aj u24 <| aj a24 <| aj s24 <| aj z24 <| aj q24 <| aj n24 <| aj u31 <| aj a31 <| aj s31 <| aj z31 <| aj q31 <| aj n31 <| aj u32 <| aj a32 <| aj s32 <| aj z32 <| aj q32 <| aj i32 <| aj n32 <| aj u34 <| aj a34 <| aj s34 <| aj z34 <| aj q34 <| aj n34 <| aj a86 <| aj s86 <| aj z86 <| aj i86 <| aj n86 <| aj p86 <| aj ff86 <| d86
open Tryz in
def Tryz.FFtb316 := aj a1 <| aj s1 <| aj z1 <| aj n1 <| aj u2 <| aj a2 <| aj s2 <| aj z2 <| aj i2 <| aj u3 <| aj a3 <| aj s3 <| aj z3 <| aj i3 <| aj u4 <| aj a4 <| aj s4 <| aj z4 <| aj n4 <| aj u24 <| aj a24 <| aj s24 <| aj z24 <| aj q24 <| aj n24 <| aj u31 <| aj a31 <| aj s31 <| aj z31 <| aj q31 <| aj n31 <| aj u32 <| aj a32 <| aj s32 <| aj z32 <| aj q32 <| aj i32 <| aj n32 <| aj u34 <| aj a34 <| aj s34 <| aj z34 <| aj q34 <| aj n34 <| aj a86 <| aj s86 <| aj z86 <| aj i86 <| aj n86 <| aj p86 <| aj ff86 <| d86
open Tryz in
def Tryz.FFtb346 := aj a1 <| aj s1 <| aj z1 <| aj n1 <| aj u2 <| aj a2 <| aj s2 <| aj z2 <| aj i2 <| aj u3 <| aj a3 <| aj s3 <| aj z3 <| aj i3 <| aj u24 <| aj a24 <| aj s24 <| aj z24 <| aj q24 <| aj n24 <| aj u31 <| aj a31 <| aj s31 <| aj z31 <| aj q31 <| aj n31 <| aj u32 <| aj a32 <| aj s32 <| aj z32 <| aj q32 <| aj i32 <| aj n32 <| aj u34 <| aj a34 <| aj s34 <| aj z34 <| aj q34 <| aj n34 <| aj a86 <| aj s86 <| aj z86 <| aj i86 <| aj n86 <| aj p86 <| aj ff86 <| d86
open Tryz in
def Tryz.FFtb347 := aj a1 <| aj s1 <| aj z1 <| aj n1 <| aj u2 <| aj a2 <| aj s2 <| aj z2 <| aj i2 <| aj u3 <| aj a3 <| aj s3 <| aj z3 <| aj i3 <| aj u24 <| aj a24 <| aj s24 <| aj z24 <| aj q24 <| aj n24 <| aj u31 <| aj a31 <| aj s31 <| aj z31 <| aj q31 <| aj n31 <| aj u32 <| aj a32 <| aj s32 <| aj z32 <| aj q32 <| aj i32 <| aj n32 <| aj u34 <| aj a34 <| aj s34 <| aj z34 <| aj q34 <| aj n34 <| aj a86 <| aj s86 <| aj z86 <| aj i86 <| aj n86 <| aj p86 <| aj ff86 <| d86
open Tryz in
def Tryz.FFtb345 := aj a1 <| aj s1 <| aj z1 <| aj n1 <| aj u2 <| aj a2 <| aj s2 <| aj z2 <| aj i2 <| aj u3 <| aj a3 <| aj s3 <| aj z3 <| aj i3 <| aj u4 <| aj a4 <| aj s4 <| aj z4 <| aj n4 <| aj u24 <| aj a24 <| aj s24 <| aj z24 <| aj q24 <| aj n24 <| aj u31 <| aj a31 <| aj s31 <| aj z31 <| aj q31 <| aj n31 <| aj u32 <| aj a32 <| aj s32 <| aj z32 <| aj q32 <| aj i32 <| aj n32 <| aj u34 <| aj a34 <| aj s34 <| aj z34 <| aj q34 <| aj n34 <| aj a86 <| aj s86 <| aj z86 <| aj i86 <| aj n86 <| aj p86 <| aj ff86 <| aj d86 <| aj a94 <| aj s94 <| aj z94 <| n94
noncomputable def toR (γ : Gra) (l : List Int) (i : Nat) : List Int := rowD (seen γ.arcs Arc.t Arc.s) γ.nodes (l.getD i 0).toNat
noncomputable def frR (γ : Gra) (l : List Int) (i : Nat) : List Int := rowD (seen γ.arcs Arc.s Arc.t) γ.nodes (l.getD i 0).toNat
theorem tabOf_ok {h0 : Hp} (ok : h0.t.Sized h0.n) {γ : Gra} (hγ : Good γ) {pn vl : Value} {nb : Nat} (hn : NetAt h0 nb pn γ) {l : List Int} (hl : SlAt h0 1 (encI .i64) vl l) (hlen : l.length < 1000) :
    Ret Tryz.abEnv 10 [pn, vl] h0 fun r h' => Gr h0 h' ∧ ((¬ MayL γ.nodes l ∧ r = .pointer none) ∨ (MayL γ.nodes l ∧ TabAt h' h0.n r γ.nodes l (toR γ l) (frR γ l))) := by
  have S := St.init (M := NoM) ok
  obtain ⟨bp, rfl⟩ : ∃ b, pn = ptrTo b := by obtain ⟨b, _, _, _, _, _, e, _⟩ := hn.ex; exact ⟨b, e⟩
  refine enter_ret (n := 28) (rs := [.tmp 4]) rfl Tryz.e10 rfl rfl rfl (lbt rfl) ?_
  simp only [BS, LB, Nat.reduceLT, Nat.reduceEqDiff, Tryz.FFtb310]
  refine step_pure (netNodes_ok S.ok (hn.gr S.gr)) ?_; intro h g; replace S := S.call g; clear g
  simp only [BS, LB, Nat.reduceLT, Nat.reduceEqDiff]
  refine step_pure (may_ok S.ok (hl.gr S.gr) (by omega)) ?_; intro h g; replace S := S.call g; clear g
  by_cases hm : MayL γ.nodes l
  · have hd : decide (MayL γ.nodes l) = true := decide_eq_true hm
    simp only [BS, LB, Nat.reduceLT, Nat.reduceEqDiff, hd]
    refine step_pure (netNodes_ok S.ok (hn.gr S.gr)) ?_; intro h g; replace S := S.call g; clear g
    simp only [BS, LB, Nat.reduceLT, Nat.reduceEqDiff]
    have k1 := S.fr.n
    refine step_ret (cloneInt_ok S.ok (encI_len .i64) (hl.gr S.gr) (by omega)) ?_; intro v h ⟨g, slM, hM⟩; replace S := S.call g; clear g
    rename Value => vM
    obtain ⟨ma, mn, mc, rfl⟩ := slM.form
    simp only [BS, LB, Nat.reduceLT, Nat.reduceEqDiff]
    refine step_ret (rows_ok S.ok fl_ptr hl.fl fl_func) ?_; intro v h ⟨g, b1, b2, b3, e, q1, q2, q3, y1, y2, y3⟩; replace S := S.call g; replace slM := slM.gr g; clear g
    subst e
    simp only [BS, LB, Nat.reduceLT, Nat.reduceEqDiff]
    have it := rows_it ok S.ok S.gr.keep S.fr.n hn (hl.gr S.gr) (fun i hi => ⟨(hm.2 i hi).1, (hm.2 i hi).2.1⟩) hlen (runTo hγ) (m := h0.n) S.fr.n y1 y2 y3
    refine step_ret (collect_ok S.ok it S.fr.n hlen) ?_; intro v h ⟨g, L1⟩; replace S := S.call g; replace slM := slM.gr g; clear g
    rename Value => vT
    obtain ⟨ta, tn, tc, rfl⟩ : ∃ a n c, vT = .slice a n c := by obtain ⟨_, s, _⟩ := L1; exact s.form
    clear it y1 y2 y3 q1 q2 q3
    simp only [BS, LB, Nat.reduceLT, Nat.reduceEqDiff]
    refine step_ret (rows_ok S.ok fl_ptr hl.fl fl_func) ?_; intro v h ⟨g, b1, b2, b3, e, q1, q2, q3, y1, y2, y3⟩; replace S := S.call g; replace slM := slM.gr g; replace L1 := L1.gr g; clear g
    subst e
    simp only [BS, LB, Nat.reduceLT, Nat.reduceEqDiff]
    have it := rows_it ok S.ok S.gr.keep S.fr.n hn (hl.gr S.gr) (fun i hi => ⟨(hm.2 i hi).1, (hm.2 i hi).2.1⟩) hlen (runFrom hγ) (m := h0.n) S.fr.n y1 y2 y3
    refine step_ret (collect_ok S.ok it S.fr.n hlen) ?_; intro v h ⟨g, L2⟩; replace S := S.call g; replace slM := slM.gr g; replace L1 := L1.gr g; clear g
    rename Value => vF
    obtain ⟨fa, fn, fc, rfl⟩ : ∃ a n c, vF = .slice a n c := by obtain ⟨_, s, _⟩ := L2; exact s.form
    simp only [BS, LB, Nat.reduceLT, Nat.reduceEqDiff, Nat.reduceAdd, Tryz.FFtb310]
    have Sb := S
    replace S := S.base
    refine step_newS (box_new (by intro x e; cases e)) S ?_; clear S; intro h b S n_b; simp only [vcells] at S
    simp only [BS, LB, tupleOf, Nat.reduceLT, Nat.reduceEqDiff]
    have f2 := S.fr
    have slM2 := slM.mo f2 (fun c _ hm => by cases hm)
    have L1' := L1.mo f2 (fun c hm => by cases hm)
    have L2' := L2.mo f2 (fun c hm => by cases hm)
    have hMt := S.row (b := b) m0
    replace S := Sb.rebase S
    exact ⟨S.gr, .inr ⟨hm, ⟨b, _, _, _, rfl, hMt, slM2, L1', L2', (S.own _ m0).1.elim (fun h => h) (fun h => h.elim), fun c hc => Nat.le_trans k1 (hM c hc)⟩⟩⟩
  · have hd : decide (MayL γ.nodes l) = false := decide_eq_false hm
    simp only [BS, LB, tupleOf, Nat.reduceLT, Nat.reduceEqDiff, hd]
    exact ⟨S.gr, .inl hm⟩
theorem tabNodes_ok {h0 : Hp} (ok : h0.t.Sized h0.n) {m N : Nat} {p : Value} {l : List Int} {R Q : Nat → List Int} (t : TabAt h0 m p N l R Q) : Pure Tryz.abEnv 40 [p] h0 (.int .i64 N) := by
  have S := St.init (M := NoM) ok
  obtain ⟨b, vM, vT, vF, rfl, hr, _⟩ := t.ex
  have l0 := hr.load1 (o := 0) rfl
  refine enter_ret (n := 9) (rs := [.tmp 2]) rfl Tryz.e40 rfl rfl rfl (lbt rfl) ?_
  simp only [BS, LB, tupleOf, Nat.reduceLT, Nat.reduceEqDiff, Tryz.FFtb340, l0]
  exact S.gr
theorem tabMarks_ok {h0 : Hp} (ok : h0.t.Sized h0.n) {m N : Nat} {p : Value} {l : List Int} {R Q : Nat → List Int} (t : TabAt h0 m p N l R Q) (hlen : l.length < 1000) : Ret Tryz.abEnv 16 [p] h0 fun r h' => Gr h0 h' ∧ SlAt h' 1 (encI .i64) r l ∧ ∀ c, blkOf r c → h0.n ≤ c := by
  have S := St.init (M := NoM) ok
  obtain ⟨b, vM, vT, vF, rfl, hr, sM, _⟩ := t.ex
  have l0 := hr.load1 (o := 1) rfl
  refine enter_ret (n := 10) (rs := [.tmp 2]) rfl Tryz.e16 rfl rfl rfl (lbt rfl) ?_
  simp only [BS, LB, Nat.reduceLT, Nat.reduceEqDiff, Tryz.FFtb316, l0]
  refine step_ret (cloneInt_ok S.ok (encI_len .i64) sM (by omega)) ?_; intro v h ⟨g, sl, hc⟩; replace S := S.call g; clear g
  simp only [BS, LB, tupleOf, Nat.reduceLT, Nat.reduceEqDiff]
  exact ⟨S.gr, sl, hc⟩
def tellI (N n : Nat) (R : Nat → List Int) (i v : Int) : Int := if 0 ≤ i ∧ i < n ∧ 0 ≤ v ∧ v < N then (R i.toNat).getD v.toNat 0 else 72057594037927936
theorem tos_ok {h0 : Hp} (ok : h0.t.Sized h0.n) {m N : Nat} {p : Value} {l : List Int} {R Q : Nat → List Int} (t : TabAt h0 m p N l R Q) : Ret Tryz.abEnv 46 [p] h0 fun r h' => Gr h0 h' ∧ LLAt h' m r l.length R := by
  have S := St.init (M := NoM) ok
  obtain ⟨b, vM, vT, vF, rfl, hr, _, L, _⟩ := t.ex
  have l0 := hr.load1 (o := 2) rfl
  refine enter_ret (n := 7) (rs := [.tmp 2]) rfl Tryz.e46 rfl rfl rfl (lbt rfl) ?_
  simp only [BS, LB, tupleOf, Nat.reduceLT, Nat.reduceEqDiff, Tryz.FFtb346, l0]
  exact ⟨S.gr, L⟩
theorem froms_ok {h0 : Hp} (ok : h0.t.Sized h0.n) {m N : Nat} {p : Value} {l : List Int} {R Q : Nat → List Int} (t : TabAt h0 m p N l R Q) : Ret Tryz.abEnv 47 [p] h0 fun r h' => Gr h0 h' ∧ LLAt h' m r l.length Q := by
  have S := St.init (M := NoM) ok
  obtain ⟨b, vM, vT, vF, rfl, hr, _, _, L, _⟩ := t.ex
  have l0 := hr.load1 (o := 3) rfl
  refine enter_ret (n := 7) (rs := [.tmp 2]) rfl Tryz.e47 rfl rfl rfl (lbt rfl) ?_
  simp only [BS, LB, tupleOf, Nat.reduceLT, Nat.reduceEqDiff, Tryz.FFtb347, l0]
  exact ⟨S.gr, L⟩
theorem tabAt_ok {h0 : Hp} (ok : h0.t.Sized h0.n) {m N : Nat} {p : Value} {l : List Int} {R Q W : Nat → List Int} (t : TabAt h0 m p N l R Q) {g : FuncId} (hg : ∀ h, Gr h0 h → Ret Tryz.abEnv g [p] h fun r h' => Gr h h' ∧ LLAt h' m r l.length W) (hW : ∀ i, i < l.length → (W i).length = N) {i v : Int} :
    Pure Tryz.abEnv 45 [p, .func (.func g) #[p] #[], .int .i64 i, .int .i64 v] h0 (.int .i64 (tellI N l.length W i v)) := by
  have S := St.init (M := NoM) ok
  obtain ⟨b, vM, vT, vF, rfl, hr, sM, _⟩ := t.ex
  have l0 := hr.load1 (o := 0) rfl
  have l1 := hr.load1 (o := 1) rfl
  unfold tellI
  refine enter_ret (n := 44) (rs := [.tmp 8]) rfl Tryz.e45 rfl rfl rfl (lbt rfl) ?_
  by_cases c1 : i < 0
  · rw [if_neg (by omega)]
    simp only [BS, LB, tupleOf, Nat.reduceLT, Nat.reduceEqDiff, Tryz.FFtb345, c1]
    exact S.gr
  · by_cases c2 : (l.length : Int) ≤ i
    · rw [if_neg (by omega)]
      simp only [BS, LB, tupleOf, Nat.reduceLT, Nat.reduceEqDiff, Tryz.FFtb345, l1, c1, c2, sM.lenq]
      exact S.gr
    · by_cases c3 : v < 0
      · rw [if_neg (by omega)]
        simp only [BS, LB, tupleOf, Nat.reduceLT, Nat.reduceEqDiff, Tryz.FFtb345, l1, c1, c2, c3, sM.lenq]
        exact S.gr
      · by_cases c4 : (N : Int) ≤ v
        · rw [if_neg (by omega)]
          simp only [BS, LB, tupleOf, Nat.reduceLT, Nat.reduceEqDiff, Tryz.FFtb345, l0, l1, c1, c2, c3, c4, sM.lenq]
          exact S.gr
        · rw [if_pos (by omega)]
          obtain ⟨i', rfl⟩ := Int.eq_ofNat_of_zero_le (show 0 ≤ i by omega)
          obtain ⟨v', rfl⟩ := Int.eq_ofNat_of_zero_le (show 0 ≤ v by omega)
          simp only [BS, LB, Nat.reduceLT, Nat.reduceEqDiff, Tryz.FFtb345, l0, l1, c1, c2, c3, c4, sM.lenq]
          refine step_ret (hg _ S.gr) ?_; intro v h ⟨g, L⟩; replace S := S.call g; clear g
          obtain ⟨w, ⟨c, o, x1, x2⟩, sw, _⟩ := L.row (i := i') (by omega)
          have hlw := hW i' (by omega)
          obtain ⟨c', o', y1, y2⟩ := sw.ix (kd := .i64) (encI_len .i64) (i := v') (by omega)
          have gd : (W i').getD v' 0 = (W i')[v'] := by simp [List.getD_eq_getElem?_getD, show v' < (W i').length by omega]
          simp only [BS, LB, tupleOf, Nat.reduceLT, Nat.reduceEqDiff, Tryz.FFtb345, x1, x2, y1, y2, encI, Int.toNat_natCast, gd]
          exact S.gr
theorem tabTo_ok {h0 : Hp} (ok : h0.t.Sized h0.n) {m N : Nat} {p : Value} {l : List Int} {R Q : Nat → List Int} (t : TabAt h0 m p N l R Q) (hW : ∀ i, i < l.length → (R i).length = N) {i v : Int} : Pure Tryz.abEnv 17 [p, .int .i64 i, .int .i64 v] h0 (.int .i64 (tellI N l.length R i v)) := by
  have S := St.init (M := NoM) ok
  refine enter_ret (n := 13) (rs := [.tmp 6]) rfl Tryz.e17 rfl rfl rfl (lbt rfl) ?_
  simp only [BS, LB, Nat.reduceLT, Nat.reduceEqDiff]
  refine step_pure (tabAt_ok S.ok t (fun h g => tos_ok g.ok (t.gr g)) hW) ?_; intro h g; replace S := S.call g; clear g
  simp only [BS, LB, tupleOf, Nat.reduceLT, Nat.reduceEqDiff]
  exact S.gr
theorem tabFrom_ok {h0 : Hp} (ok : h0.t.Sized h0.n) {m N : Nat} {p : Value} {l : List Int} {R Q : Nat → List Int} (t : TabAt h0 m p N l R Q) (hW : ∀ i, i < l.length → (Q i).length = N) {i v : Int} : Pure Tryz.abEnv 18 [p, .int .i64 i, .int .i64 v] h0 (.int .i64 (tellI N l.length Q i v)) := by
  have S := St.init (M := NoM) ok
  refine enter_ret (n := 13) (rs := [.tmp 6]) rfl Tryz.e18 rfl rfl rfl (lbt rfl) ?_
  simp only [BS, LB, Nat.reduceLT, Nat.reduceEqDiff]
  refine step_pure (tabAt_ok S.ok t (fun h g => froms_ok g.ok (t.gr g)) hW) ?_; intro h g; replace S := S.call g; clear g
  simp only [BS, LB, tupleOf, Nat.reduceLT, Nat.reduceEqDiff]
  exact S.gr
end Go.Ab

end
section
namespace Go.Ab
def SlW (h : Hp) (kd : IntKind) (v : Value) (xs : List Int) : Prop := (v = .slice none 0 0 ∧ xs = []) ∨ ∃ b o c, v = .slice (some ⟨b, o, none⟩) xs.length c ∧ xs.length ≤ c ∧ h.load b o (xs.length * 1) = some (xs.flatMap (encI kd))
theorem SlW.sl {h : Hp} {kd : IntKind} {v : Value} {xs : List Int} (s : SlW h kd v xs) : SlAt h 1 (encI kd) v xs := s.imp (fun h => h) (fun ⟨b, o, c, h1, h2, h3⟩ => ⟨b, o, none, c, h1, h2, h3⟩)
theorem SlW.low {E : Env} {h : Hp} {kd kd' : IntKind} {t e : TypeId} {v : Value} {xs : List Int} (hu : E.und t = some (.slice e)) (hs : E.sz e = some 1) (s : SlW h kd v xs) {n : Nat} (hn : n ≤ xs.length) :
    ∃ v', sliceP E t v none (some (.int kd' (n : Int))) none = some v' ∧ SlAt h 1 (encI kd) v' (xs.take n) ∧ ∀ c, blkOf v' c → blkOf v c := by
  have nat : ∀ n : Nat, natOf (n : Int) = some n := fun n => rfl
  rcases s with ⟨rfl, rfl⟩ | ⟨b, o, c, rfl, h2, h3⟩
  · have : n = 0 := by simpa using hn
    subst this
    refine ⟨.slice none 0 0, ?_, .inl ⟨rfl, rfl⟩, fun c hc => hc⟩
    simp only [sliceP, hu, boundsP, boundP, nat, hs]
    rfl
  · refine ⟨.slice (some ⟨b, o, none⟩) n c, ?_, .inr ⟨b, o, none, c, ?_, ?_, ?_⟩, fun c hc => hc⟩
    · simp only [sliceP, hu, boundsP, boundP, nat, Nat.ble_eq_true_of_le (Nat.le_trans hn h2), cond_true, hs, Option.isSome_none, cond_false, Nat.sub_zero, addrAdd, Nat.zero_mul, Nat.add_zero]
      by_cases hc : c = 0
      · subst hc; rfl
      · rw [show Nat.beq c 0 = false by cases c with | zero => exact absurd rfl hc | succ c => rfl]; rfl
    · rw [List.length_take, Nat.min_eq_left hn]
    · rw [List.length_take, Nat.min_eq_left hn]; exact Nat.le_trans hn h2
    · rw [List.length_take, Nat.min_eq_left hn]
      have := load_sub h3 (i := 0) (m := n * 1) (by omega)
      rw [Nat.add_zero, List.drop_zero] at this
      rw [this]
      congr 1
      refine List.ext_getElem? fun i => ?_
      have e4 : ∀ l : List Int, l.flatMap (encI kd) = l.map fun x => .int kd x := fun l => by
        rw [List.flatMap_eq_foldl, List.map_eq_flatMap, List.flatMap_eq_foldl]; rfl
      rw [e4, e4, Nat.mul_one, List.map_take]
end Go.Ab

end
section
namespace Go.Ab
open Go.Proofs
set_option maxRecDepth 10000
open Tryz in
def Tryz.FFts18 := aj a1 <| aj s1 <| aj z1 <| aj n1 <| aj u2 <| aj a2 <| aj s2 <| aj z2 <| aj i2 <| aj u3 <| aj a3 <| aj s3 <| aj z3 <| aj i3 <| aj u5 <| aj a5 <| aj s5 <| aj z5 <| aj i5 <| aj u22 <| aj a22 <| aj s22 <| aj z22 <| aj q22 <| aj n22 <| aj u24 <| aj a24 <| aj s24 <| aj z24 <| aj q24 <| aj n24 <| aj u25 <| aj a25 <| aj s25 <| aj z25 <| aj q25 <| aj n25 <| aj a27 <| aj s27 <| aj z27 <| aj i27 <| aj n27 <| aj p27 <| aj ff27 <| aj d27 <| aj a51 <| aj s51 <| aj z51 <| aj i51 <| aj n51 <| aj p51 <| aj ff51 <| aj d51 <| aj u70 <| aj a70 <| aj s70 <| aj z70 <| aj q70 <| aj i70 <| aj n70 <| aj a72 <| aj s72 <| aj z72 <| aj i72 <| aj n72 <| aj p72 <| aj ff72 <| d72
open Tryz in
def Tryz.FFts19 := aj a1 <| aj s1 <| aj z1 <| aj n1 <| aj u2 <| aj a2 <| aj s2 <| aj z2 <| aj i2 <| aj u3 <| aj a3 <| aj s3 <| aj z3 <| aj i3 <| aj u4 <| aj a4 <| aj s4 <| aj z4 <| aj n4 <| aj u24 <| aj a24 <| aj s24 <| aj z24 <| aj q24 <| aj n24 <| aj u25 <| aj a25 <| aj s25 <| aj z25 <| aj q25 <| aj n25 <| aj a27 <| aj s27 <| aj z27 <| aj i27 <| aj n27 <| aj p27 <| aj ff27 <| aj d27 <| aj u29 <| aj a29 <| aj s29 <| aj z29 <| aj q29 <| aj i29 <| aj n29 <| aj a51 <| aj s51 <| aj z51 <| aj i51 <| aj n51 <| aj p51 <| aj ff51 <| aj d51 <| aj a75 <| aj s75 <| aj z75 <| aj q75 <| aj n75 <| aj u126 <| aj a126 <| aj s126 <| aj z126 <| aj q126 <| aj n126 <| aj a128 <| aj s128 <| aj z128 <| aj i128 <| aj n128 <| aj p128 <| aj ff128 <| d128
theorem drawn_ok {h0 : Hp} (ok : h0.t.Sized h0.n) {vB : Value} {B : List Int} (hB : SlW h0 .u8 vB B) :
    Ret Tryz.abEnv 8 [vB] h0 fun r h' => Gr h0 h' ∧ ∃ γ vx vy va, r = rawV γ vx vy va ∧ Good γ ∧ GraphAt h' vx vy va γ ∧ ∀ c, (blkOf vx c ∨ blkOf vy c ∨ blkOf va c) → h0.n ≤ c := by
  have S := St.init (M := NoM) ok
  have mn : min (B.length : Int) 80 = ((min B.length 80 : Nat) : Int) := by omega
  obtain ⟨vB', hsl, sB, bB⟩ := hB.low (kd' := .i64) (n := min B.length 80) Tryz.u22 Tryz.s5 (Nat.min_le_left _ _)
  have fB' := sB.fl
  refine enter_ret (n := 13) (rs := [.cell 2 27]) rfl Tryz.e8 rfl rfl rfl (lbt rfl) ?_
  simp only [BS, Tryz.FFts18]
  refine step_newS allocR_new S ?_; clear S; intro h b2 S n_b2
  simp only [BS, LB, Nat.reduceLT, Nat.reduceEqDiff, Nat.reduceAdd, Option.map_some, Option.map_none, Tryz.FFts18, hB.sl.lenq, mn, hsl, fB']
  refine step_newS (box_new (by intro x e; cases e)) S ?_; clear S; intro h bd S n_bd; simp only [vcells] at S
  have hB' : SlAt h 1 (encI .u8) vB' (B.take (min B.length 80)) := sB.gr S.gr
  have nB : ¬ blkOf vB' bd := fun hc => by have := sB.lt ok hc; omega
  have lb' : (B.take (min B.length 80)).length < 1000000 := by rw [List.length_take]; omega
  simp only [BS, LB, Nat.reduceLT, Nat.reduceEqDiff]
  have k0 := S.fr.n
  have e12 : bd ≠ b2 := by
    have ap := S.apart
    simp only [keys, List.map_cons, List.map_nil, List.filterMap_nil, List.append_nil, List.nodup_cons, List.mem_cons, List.not_mem_nil, or_false, not_or] at ap
    exact ap.1
  have lt2 := (S.row (b := b2) m1).lt S.ok
  refine step_ret (raw_ok S.ok (S.row m0) ⟨hB', nB, lb', by omega⟩) ?_
  rintro v h ⟨f, γ, vx, vy, va, rfl, hγ, ga, hz⟩
  replace S := S.drop1.step f (fun c hc => by subst hc; exact .inr n_bd) (fun c hc e => by simp [keys] at hc; omega)
  have fx := ga.X.fl
  have fy := ga.Y.fl
  have fa := ga.A.fl
  simp only [BS, LB, Nat.reduceLT, Nat.reduceEqDiff, rawV]
  refine step_u (S.store (i := 0) rfl Tryz.s27 (by intro x e; cases e) rfl (by simp only [vcells, List.all_cons, List.all_nil, fx.2.1, fy.2.1, fa.2.1, Bool.and_true]; rfl) (lbt rfl) ono) ?_
  clear S; rintro h ⟨S, mo⟩
  simp only [List.set_cons_zero, List.set_cons_succ, vcells, lay, List.take, List.drop, List.nil_append, List.cons_append, List.append_nil, List.length_cons, List.length_nil, Nat.reduceAdd, Nat.add_zero] at S
  simp only [BS, tupleOf]
  refine (res_cell (by decide) (by simp only [setR_at, ptr_eq, Nat.reduceEqDiff, reduceIte]; exact loadV_aggr Tryz.a27 Tryz.s27 (S.lds (b := b2) (o := 0) (n := 4) m0 (lbt rfl)))).2 (res_nil.2 ?_)
  exact ⟨S.gr, γ, vx, vy, va, rfl, hγ, ga.mo mo (fun c hc e => by have := hz c hc; omega), fun c hc => Nat.le_trans k0 (hz c hc)⟩
theorem made_ok {h0 : Hp} (ok : h0.t.Sized h0.n) {γ : Gra} (hγ : Good γ) {vx vy va : Value} (ga : GraphAt h0 vx vy va γ) :
    Ret Tryz.abEnv 9 [rawV γ vx vy va] h0 fun r h' => Gr h0 h' ∧ NetAt h' h0.n r γ := by
  have S := St.init (M := NoM) ok
  refine enter_ret (n := 13) (rs := [.tmp 2]) rfl Tryz.e9 rfl rfl rfl (lbt rfl) ?_
  simp only [BS, Nat.reduceLT, rawV]
  refine step_newS (box_new (by intro x e; cases e)) S ?_; clear S; intro h b S n_b; simp only [vcells] at S
  simp only [BS, LB, Nat.reduceLT, Nat.reduceEqDiff, Tryz.FFts19, List.drop_zero, List.take_succ_cons, List.take_zero, S.lds (b := b) (o := 0) (n := 4) (by repeat constructor) (lbt rfl)]
  have k1 := S.fr.n
  refine step_ret (netNew_ok S.ok hγ (ga.gr S.gr)) ?_
  rintro v h ⟨p, rfl, g, hp⟩
  replace S := S.call g; clear g
  have hp' : NetAt h h0.n p γ := by
    obtain ⟨b, vx, vy, va, vo, vi, h1, h2, h3, h4, h5, h6, h7⟩ := hp.ex
    exact ⟨b, vx, vy, va, vo, vi, h1, h2, h3, h4.low k1, h5.low k1, Nat.le_trans k1 h6, fun c hc => Nat.le_trans k1 (h7 c hc)⟩
  simp only [BS, LB, tupleOf, Nat.reduceLT, Nat.reduceEqDiff, Tryz.FFts19]
  exact ⟨S.gr, hp'⟩
end Go.Ab

end
section
namespace Go.Ab
open Go.Proofs
set_option maxRecDepth 10000
theorem worksTab_ok {h0 : Hp} (ok : h0.t.Sized h0.n) : Pure Tryz.abEnv 14 [] h0 (.bool true) := ret_orc rfl ⟨rfl, Gr.refl ok⟩
theorem exTo {h0 : Hp} (ok : h0.t.Sized h0.n) {γ : Gra} (hγ : Good γ) {pn : Value} {nb : Nat} (hn : NetAt h0 nb pn γ) {s : Nat} (hs : s < γ.nodes) (v : Nat) : IsD (seen γ.arcs Arc.t Arc.s) s v (dOf (seen γ.arcs Arc.t Arc.s) s v) := by
  obtain ⟨_, _, _, _, _, _, _, D, _, _, _, _, _, _, _, hD, _⟩ := floodTo_ok ok hγ hn hs
  exact (dOf_is (hD v)).2
theorem exFrom {h0 : Hp} (ok : h0.t.Sized h0.n) {γ : Gra} (hγ : Good γ) {pn : Value} {nb : Nat} (hn : NetAt h0 nb pn γ) {s : Nat} (hs : s < γ.nodes) (v : Nat) : IsD (seen γ.arcs Arc.s Arc.t) s v (dOf (seen γ.arcs Arc.s Arc.t) s v) := by
  obtain ⟨_, _, _, _, _, _, _, D, _, _, _, _, _, _, _, hD, _⟩ := floodFrom_ok ok hγ hn hs
  exact (dOf_is (hD v)).2
theorem rowD_len (B : List Arc) (N s : Nat) : (rowD B N s).length = N := by simp [rowD]
end Go.Ab

end
section
namespace Go.Ab
open Go.Proofs
set_option maxRecDepth 10000
open Tryz in
def Tryz.FFtb444 := aj a1 <| aj s1 <| aj z1 <| aj n1 <| aj u2 <| aj a2 <| aj s2 <| aj z2 <| aj i2 <| aj u3 <| aj a3 <| aj s3 <| aj z3 <| aj i3 <| aj u4 <| aj a4 <| aj s4 <| aj z4 <| aj n4 <| aj u5 <| aj a5 <| aj s5 <| aj z5 <| aj i5 <| aj u6 <| aj a6 <| aj s6 <| aj z6 <| aj i6 <| aj a7 <| aj s7 <| aj z7 <| aj i7 <| aj n7 <| aj p7 <| aj ff7 <| aj d7 <| aj a8 <| aj s8 <| aj z8 <| aj i8 <| aj n8 <| aj p8 <| aj ff8 <| aj d8 <| aj u9 <| aj a9 <| aj s9 <| aj z9 <| aj n9 <| aj u24 <| aj a24 <| aj s24 <| aj z24 <| aj q24 <| n24
open Tryz in
def Tryz.FFtb443 := aj a1 <| aj s1 <| aj z1 <| aj n1 <| aj u2 <| aj a2 <| aj s2 <| aj z2 <| aj i2 <| aj u3 <| aj a3 <| aj s3 <| aj z3 <| aj i3 <| aj u4 <| aj a4 <| aj s4 <| aj z4 <| aj n4 <| aj u5 <| aj a5 <| aj s5 <| aj z5 <| aj i5 <| aj u6 <| aj a6 <| aj s6 <| aj z6 <| aj i6 <| aj a7 <| aj s7 <| aj z7 <| aj i7 <| aj n7 <| aj p7 <| aj ff7 <| aj d7 <| aj a8 <| aj s8 <| aj z8 <| aj i8 <| aj n8 <| aj p8 <| aj ff8 <| aj d8 <| aj u9 <| aj a9 <| aj s9 <| aj z9 <| aj n9 <| aj u10 <| aj a10 <| aj s10 <| aj z10 <| aj n10 <| aj u24 <| aj a24 <| aj s24 <| aj z24 <| aj q24 <| aj n24 <| aj u34 <| aj a34 <| aj s34 <| aj z34 <| aj q34 <| aj n34 <| aj a92 <| aj s92 <| aj z92 <| n92
open Tryz in
def Tryz.FFtb413 := aj a1 <| aj s1 <| aj z1 <| aj n1 <| aj u2 <| aj a2 <| aj s2 <| aj z2 <| aj i2 <| aj u3 <| aj a3 <| aj s3 <| aj z3 <| aj i3 <| aj u4 <| aj a4 <| aj s4 <| aj z4 <| aj n4 <| aj u24 <| aj a24 <| aj s24 <| aj z24 <| aj q24 <| aj n24 <| aj a27 <| aj s27 <| aj z27 <| aj i27 <| aj n27 <| aj p27 <| aj ff27 <| aj d27 <| aj u29 <| aj a29 <| aj s29 <| aj z29 <| aj q29 <| aj i29 <| aj n29 <| aj u31 <| aj a31 <| aj s31 <| aj z31 <| aj q31 <| aj n31 <| aj u32 <| aj a32 <| aj s32 <| aj z32 <| aj q32 <| aj i32 <| aj n32 <| aj u34 <| aj a34 <| aj s34 <| aj z34 <| aj q34 <| aj n34 <| aj a86 <| aj s86 <| aj z86 <| aj i86 <| aj n86 <| aj p86 <| aj ff86 <| aj d86 <| aj a92 <| aj s92 <| aj z92 <| aj n92 <| aj u126 <| aj a126 <| aj s126 <| aj z126 <| aj q126 <| aj n126 <| aj a128 <| aj s128 <| aj z128 <| aj i128 <| aj n128 <| aj p128 <| aj ff128 <| d128
theorem eqNum_ok {h0 : Hp} (ok : h0.t.Sized h0.n) {u v : Value} {l m : List Int} (hu : SlAt h0 1 (encI .i64) u l) (hv : SlAt h0 1 (encI .i64) v m) (hl : l.length < 1000000) : Pure Tryz.abEnv 44 [u, v] h0 (.bool (decide (l = m))) := by
  have S := St.init (M := NoM) ok
  by_cases hlen : l.length = m.length
  · have hle : ((l.length : Int) = (m.length : Int)) := by omega
    refine enter_ret (n := 26) (rs := [.tmp 4]) rfl Tryz.e44 rfl rfl rfl (lbt rfl) ?_
    simp only [BS, LB, Nat.reduceLT, Nat.reduceEqDiff, Tryz.FFtb444, hu.lenq, hv.lenq, hle]
    refine loop_ind (fun (i : Nat) ρ h => i ≤ l.length ∧ l.take i = m.take i ∧ Gr h0 h ∧ ρ 0 = u ∧ ρ 1 = v ∧ ρ 12 = .int .i64 l.length ∧ ρ 13 = .int .i64 i) (fun i => l.length - i) ?_ 0 _ _ ?_
    · clear S
      intro i ih ρ h ⟨hi, ht, S, r0, r1, r12, r13⟩
      by_cases hlt : i < l.length
      · obtain ⟨c, o, hidx, hld⟩ := (hu.gr S).ix (kd := .i64) (encI_len .i64) hlt
        obtain ⟨c2, o2, hidx2, hld2⟩ := (hv.gr S).ix (kd := .i64) (encI_len .i64) (hlen ▸ hlt)
        have w : wrapI .i64 ((i : Int) + 1) = ((i + 1 : Nat) : Int) := by rw [wrap64] <;> omega
        by_cases he : l[i] = m[i]
        · simp only [BS, LB, Nat.reduceLT, Nat.reduceEqDiff, r12, r13, lt_nat, hlt]
          refine draw_step (hoist_no rfl) (q := 0) (ps := []) (by kernel_rfl) ?_
          simp only [BS, LB, cls, Nat.reduceLT, Nat.reduceEqDiff, Nat.reduceAdd, Nat.reducePow, Nat.reduceDiv, Nat.reduceMod, Nat.reduceLeDiff, Tryz.FFtb444, r0, r1, r13, hidx, hld, hidx2, hld2, encI, he, w]
          refine ih (i + 1) _ _ (by omega) ⟨by omega, ?_, S, by simp [setR, r0], by simp [setR, r1], by simp [setR, r12], by simp [setR]⟩
          rw [List.take_succ_eq_append_getElem hlt, List.take_succ_eq_append_getElem (hlen ▸ hlt), ht, he]
        · have hne : l ≠ m := by rintro rfl; exact he rfl
          simp only [BS, LB, Nat.reduceLT, Nat.reduceEqDiff, r12, r13, lt_nat, hlt]
          refine draw_step (hoist_no rfl) (q := 0) (ps := []) (by kernel_rfl) ?_
          simp only [BS, LB, cls, tupleOf, Nat.reduceLT, Nat.reduceEqDiff, Nat.reduceAdd, Nat.reducePow, Nat.reduceDiv, Nat.reduceMod, Nat.reduceLeDiff, Tryz.FFtb444, r0, r1, hidx, hld, hidx2, hld2, encI, he, hne]
          exact S
      · have hE : l = m := by
          have e1 : l.take i = l := List.take_of_length_le (by omega)
          have e2 : m.take i = m := List.take_of_length_le (by omega)
          rw [e1, e2] at ht; exact ht
        subst hE
        simp only [BS, LB, tupleOf, Nat.reduceLT, Nat.reduceEqDiff, r12, r13, lt_nat, hlt]
        exact S
    · exact ⟨Nat.zero_le _, rfl, Gr.refl ok, by simp [setR, argR_zero], by simp [setR, argR_zero, argR_succ], by simp [setR, hlen], by simp [setR]⟩
  · have hne : l ≠ m := by rintro rfl; exact hlen rfl
    have hle : ¬ ((l.length : Int) = (m.length : Int)) := by omega
    refine enter_ret (n := 26) (rs := [.tmp 4]) rfl Tryz.e44 rfl rfl rfl (lbt rfl) ?_
    simp only [BS, LB, tupleOf, Nat.reduceLT, Nat.reduceEqDiff, Tryz.FFtb444, hu.lenq, hv.lenq, hle, hne]
    exact S.gr
theorem LLAt.lenq {h h' : Hp} {m n : Nat} {v : Value} {R : Nat → List Int} {e : TypeId} (r : LLAt h' m v n R) : lenQ (some (.slice e)) h v = some (.val (.int .i64 n), h) := by
  have ⟨ws, a, b, _⟩ := r
  rw [← b]; exact a.lenq
theorem eqRows_ok {h0 : Hp} (ok : h0.t.Sized h0.n) {u v : Value} {n m m' : Nat} {R Q : Nat → List Int} (hu : LLAt h0 m u n R) (hv : LLAt h0 m' v n Q) (hn : n < 1000) (hR : ∀ i, i < n → (R i).length < 1000000) (d : Decidable (∀ i, i < n → R i = Q i)) : Pure Tryz.abEnv 43 [u, v, .func (.func 44) #[] #[]] h0 (.bool (decide (∀ i, i < n → R i = Q i))) := by
  have S := St.init (M := NoM) ok
  refine enter_ret (n := 32) (rs := [.tmp 6]) rfl Tryz.e43 rfl rfl rfl (lbt rfl) ?_
  simp only [BS, LB, Nat.reduceLT, Nat.reduceEqDiff, Tryz.FFtb443, hu.lenq, hv.lenq]
  refine loop_ind (fun (i : Nat) ρ h => i ≤ n ∧ (∀ j, j < i → R j = Q j) ∧ Gr h0 h ∧ ρ 0 = u ∧ ρ 1 = v ∧ ρ 2 = .func (.func 44) #[] #[] ∧ ρ 15 = u ∧ ρ 16 = .int .i64 n ∧ ρ 17 = .int .i64 i) (fun i => n - i) ?_ 0 _ _ ?_
  · clear S
    intro i ih ρ h ⟨hi, ht, S, r0, r1, r2, r15, r16, r17⟩
    by_cases hlt : i < n
    · obtain ⟨x, ⟨c, o, hidx, hld⟩, hx, _⟩ := (hu.gr S).row hlt
      obtain ⟨y, ⟨c2, o2, hidx2, hld2⟩, hy, _⟩ := (hv.gr S).row hlt
      have fx := hx.fl
      have fy := hy.fl
      have w : wrapI .i64 ((i : Int) + 1) = ((i + 1 : Nat) : Int) := by rw [wrap64] <;> omega
      simp only [BS, LB, Nat.reduceLT, Nat.reduceEqDiff, Tryz.FFtb443, r1, r2, r15, r16, r17, lt_nat, hlt, hidx, hld, hidx2, hld2]
      refine step_pure (eqNum_ok S.ok hx hy (hR i hlt)) ?_
      intro h' g
      have S' := S.trans g
      by_cases he : R i = Q i
      · simp only [BS, LB, Nat.reduceLT, Nat.reduceEqDiff, r17, he, w]
        refine ih (i + 1) _ _ (by omega) ⟨by omega, fun j hj => ?_, S', by simp [setR, r0], by simp [setR, r1], by simp [setR, r2], by simp [setR, r15], by simp [setR, r16], by simp [setR]⟩
        by_cases e : j = i
        · rw [e]; exact he
        · exact ht j (by omega)
      · have hne : ¬ ∀ i, i < n → R i = Q i := fun h => he (h i hlt)
        simp only [BS, LB, tupleOf, Nat.reduceLT, Nat.reduceEqDiff, he, hne]
        exact S'
    · have hE : ∀ i, i < n → R i = Q i := fun j hj => ht j (by omega)
      simp only [BS, LB, tupleOf, Nat.reduceLT, Nat.reduceEqDiff, r16, r17, lt_nat, hlt]
      exact ⟨by rw [decide_eq_true hE], S⟩
  · exact ⟨Nat.zero_le _, fun j hj => by omega, Gr.refl ok, by simp [setR, argR_zero], by simp [setR, argR_zero, argR_succ], by simp [setR, argR_zero, argR_succ], by simp [setR, argR_zero], by simp [setR], by simp [setR]⟩
def TrueT (γ : Gra) (l : List Int) (R Q : Nat → List Int) : Prop := (∀ i, i < l.length → toR γ l i = R i) ∧ ∀ i, i < l.length → frR γ l i = Q i
theorem tabTrue_ok {h0 : Hp} (ok : h0.t.Sized h0.n) {γ : Gra} (hγ : Good γ) {pn p : Value} {nb m : Nat} (hn : NetAt h0 nb pn γ) {l : List Int} {R Q : Nat → List Int} (t : TabAt h0 m p γ.nodes l R Q) (hm : MayL γ.nodes l) (d : Decidable (TrueT γ l R Q)) :
    Pure Tryz.abEnv 13 [p, pn] h0 (.bool (decide (TrueT γ l R Q))) := by
  have S := St.init (M := NoM) ok
  have hlen : l.length < 1000 := by have := hm.1; omega
  obtain ⟨b, vM, vT, vF, rfl, hr, sM, LT, LF, _⟩ := t.ex
  have l0 := hr.load1 (o := 0) rfl
  have l1 := hr.load1 (o := 1) rfl
  have l2 := hr.load1 (o := 2) rfl
  have l3 := hr.load1 (o := 3) rfl
  have hN := hγ.n2
  refine enter_ret (n := 49) (rs := [.tmp 4]) rfl Tryz.e13 rfl rfl rfl (lbt rfl) ?_
  simp only [BS, LB, Nat.reduceLT, Nat.reduceEqDiff, Tryz.FFtb413, l1]
  refine step_ret (tabOf_ok S.ok hγ hn sM hlen) ?_; intro v h ⟨g, hv⟩; replace S := S.call g; replace hr := hr.gr g; replace LT := LT.gr g; replace LF := LF.gr g; clear g
  rcases hv with ⟨hv, _⟩ | ⟨_, tu⟩
  · exact absurd hm hv
  obtain ⟨b', vM', vT', vF', rfl, hr', sM', LT', LF', _⟩ := tu.ex
  have l0 := hr.load1 (o := 0) rfl
  have l2 := hr.load1 (o := 2) rfl
  have l3 := hr.load1 (o := 3) rfl
  have l0' := hr'.load1 (o := 0) rfl
  have l2' := hr'.load1 (o := 2) rfl
  have d1 : Decidable (∀ i, i < l.length → toR γ l i = R i) := Classical.propDecidable _
  have d2 : Decidable (∀ i, i < l.length → frR γ l i = Q i) := Classical.propDecidable _
  simp only [BS, LB, Nat.reduceLT, Nat.reduceEqDiff]
  refine draw_step (hoist_no rfl) (q := 0) (ps := []) (by kernel_rfl) ?_
  simp only [BS, LB, cls, Nat.reduceLT, Nat.reduceEqDiff, Nat.reduceAdd, Nat.reducePow, Nat.reduceDiv, Nat.reduceMod, Nat.reduceLeDiff, Tryz.FFtb413, l0, l2, l0', l2']
  refine dn_pure (eqRows_ok S.ok LT' LT hlen (fun i _ => by unfold toR; rw [rowD_len]; omega) d1) ?_
  intro h g; replace S := S.call g; replace LF' := LF'.gr g; replace LF := LF.gr g; replace hr := hr.gr g; replace hr' := hr'.gr g; clear g
  have l3 := hr.load1 (o := 3) rfl
  have l3' := hr'.load1 (o := 3) rfl
  by_cases c1 : ∀ i, i < l.length → toR γ l i = R i
  · rw [decide_eq_true c1]
    simp only [BS, LB, cls, Nat.reduceLT, Nat.reduceEqDiff, Nat.reduceAdd, Nat.reducePow, Nat.reduceDiv, Nat.reduceMod, Nat.reduceLeDiff, Tryz.FFtb413, l3, l3']
    refine dn_pure (eqRows_ok S.ok LF' LF hlen (fun i _ => by unfold frR; rw [rowD_len]; omega) d2) ?_
    intro h g; replace S := S.call g; clear g
    simp only [BS, LB, cls, tupleOf, Nat.reduceLT, Nat.reduceEqDiff, Nat.reduceAdd, Nat.reducePow, Nat.reduceDiv, Nat.reduceMod, Nat.reduceLeDiff]
    have e : TrueT γ l R Q ↔ ∀ i, i < l.length → frR γ l i = Q i := ⟨fun h => h.2, fun h => ⟨c1, h⟩⟩
    exact ⟨by congr 1; exact decide_eq_decide.2 e.symm, S.gr⟩
  · rw [decide_eq_false c1]
    have e : ¬ TrueT γ l R Q := fun h => c1 h.1
    simp only [BS, LB, cls, tupleOf, Nat.reduceLT, Nat.reduceEqDiff, Nat.reduceAdd, Nat.reducePow, Nat.reduceDiv, Nat.reduceMod, Nat.reduceLeDiff]
    exact ⟨by rw [decide_eq_false e], S.gr⟩
end Go.Ab

end
section
namespace Go.Ab
open Go.Proofs
set_option maxRecDepth 10000
open Tryz in
def Tryz.FFtb591 := aj a1 <| aj s1 <| aj z1 <| aj n1 <| aj u2 <| aj a2 <| aj s2 <| aj z2 <| aj i2 <| aj u3 <| aj a3 <| aj s3 <| aj z3 <| aj i3 <| aj u4 <| aj a4 <| aj s4 <| aj z4 <| aj n4 <| aj u24 <| aj a24 <| aj s24 <| aj z24 <| aj q24 <| n24
open Tryz in
def Tryz.FFtb555 := aj a1 <| aj s1 <| aj z1 <| aj n1 <| aj u2 <| aj a2 <| aj s2 <| aj z2 <| aj i2 <| aj u3 <| aj a3 <| aj s3 <| aj z3 <| aj i3 <| aj u4 <| aj a4 <| aj s4 <| aj z4 <| aj n4 <| aj u5 <| aj a5 <| aj s5 <| aj z5 <| aj i5 <| aj u6 <| aj a6 <| aj s6 <| aj z6 <| aj i6 <| aj u24 <| aj a24 <| aj s24 <| aj z24 <| aj q24 <| aj n24 <| aj u34 <| aj a34 <| aj s34 <| aj z34 <| aj q34 <| n34
def Sep (ws : List Value) : Prop := ∀ (i j : Nat) (w u : Value) (c : Nat), ws[i]? = some w → ws[j]? = some u → i ≠ j → blkOf w c → ¬ blkOf u c
theorem get_snoc {α : Type} {l : List α} {x u : α} {j : Nat} (h : (l ++ [x])[j]? = some u) : l[j]? = some u ∨ (j = l.length ∧ u = x) := by
  by_cases hj : j < l.length
  · rw [List.getElem?_append_left hj] at h; exact .inl h
  · rw [List.getElem?_append_right (by omega)] at h
    have hj2 : j - l.length = 0 := by
      have := (List.getElem?_eq_some_iff.1 h).1
      simp at this; omega
    rw [hj2] at h
    cases h
    exact .inr ⟨by omega, rfl⟩
theorem Sep.push {ws : List Value} {y : Value} (s : Sep ws) (h : ∀ (j : Nat) u, ws[j]? = some u → ∀ c, blkOf u c → ¬ blkOf y c) : Sep (ws ++ [y]) := by
  intro i j w u c hi hj ne hw hu
  rcases get_snoc hi with hi | ⟨e1, e2⟩ <;> rcases get_snoc hj with hj | ⟨e3, e4⟩
  · exact s i j w u c hi hj ne hw hu
  · rw [e4] at hu; exact h i w hi c hw hu
  · rw [e2] at hw; exact h j u hj c hu hw
  · exact ne (e1.trans e3.symm)
def WrI (h : Hp) (w : Value) (l : List Int) : Prop := SlAt h 1 (encI .i64) w l ∧ (l ≠ [] → ∃ b, w = .slice (some ⟨b, 0, some 1⟩) l.length l.length ∧ Row h b (ints l) 1)
theorem WrI.mo {M : Nat → Prop} {h h' : Hp} {w : Value} {l : List Int} (r : WrI h w l) (g : Mo M h h') (hm : ∀ b, blkOf w b → ¬ M b) : WrI h' w l :=
  ⟨r.1.mo g hm, fun hl => by obtain ⟨b, e, k⟩ := r.2 hl; exact ⟨b, e, g.has (o := .row _ 1) k (hm b (by rw [e]; rfl))⟩⟩
theorem WrI.gr {h h' : Hp} {w : Value} {l : List Int} (r : WrI h w l) (g : Gr h h') : WrI h' w l := r.mo (M := NoM) g.fr (fun _ _ h => h)
theorem clone64W_ok {h0 : Hp} (ok : h0.t.Sized h0.n) {v : Value} {xs : List Int} (hs : SlAt h0 1 (encI .i64) v xs) (hl : xs.length < 1000000) : Ret Tryz.abEnv 91 [v] h0 fun r h' => Gr h0 h' ∧ WrI h' r xs ∧ ∀ c, blkOf r c → h0.n ≤ c := by
  have S := St.init (M := NoM) ok
  by_cases hx : xs = []
  · obtain ⟨r, h', e1, g, sl, hc⟩ := clone64_ok ok hs hl
    exact ⟨r, h', e1, g, ⟨sl, fun h => absurd hx h⟩, hc⟩
  rcases hs with ⟨rfl, rfl⟩ | ⟨b, o, s, c, rfl, h2, h3⟩
  · exact absurd rfl hx
  · refine enter_ret (n := 8) (rs := [.tmp 2]) rfl Tryz.e91 rfl rfl rfl (lbt rfl) ?_
    simp only [BS, LB, Nat.reduceLT, Nat.reduceEqDiff, Tryz.FFtb591]
    refine step_newS (bs_new (by first | exact Tryz.u24) (by first | exact Tryz.e2E) (by decide) (by first | rfl | exact fillE )) S ?_; clear S; intro h bb S n_bb; simp only [repL, setL, vcells, List.cons_append, List.nil_append, List.append_nil, List.set_cons_zero, List.set_cons_succ, Nat.reduceMul, Nat.reduceAdd, Nat.zero_mul, Nat.zero_add, Nat.mul_one, Nat.one_mul] at S
    simp only [BS, LB, Nat.reduceLT, Nat.reduceEqDiff]
    have hs' : SlAt h 1 (encI .i64) (.slice (some ⟨b, o, s⟩) xs.length c) xs := .inr ⟨b, o, s, c, rfl, h2, S.old h3 (fun h => h)⟩
    refine step_v (S.clone (n := 0) (vs := []) Tryz.u24 Tryz.e2E (by decide) Tryz.n24 hs'.src (flatMap_len (encI_len .i64) xs).symm rfl (by decide) (by rw [flatMap_len (encI_len .i64)]; simp; omega) (S.row m0)) ?_
    rintro h' v (⟨e, _⟩ | ⟨b', rfl, S'⟩)
    · exact absurd (List.length_eq_zero_iff.1 e) hx
    simp only [BS, LB, tupleOf, Nat.reduceLT, Nat.reduceEqDiff]
    have row : Row h' b' (ints xs) 1 := S'.row m0
    have nb : h0.n ≤ b' := (S'.own _ m0).1.elim (fun h => h) (fun h => h.elim)
    refine ⟨S'.gr, ⟨.inr ⟨b', 0, some 1, xs.length, rfl, Nat.le_refl _, ?_⟩, fun _ => ⟨b', rfl, row⟩⟩, fun c hc => ?_⟩
    · rw [row.load (by rw [ints_len]; omega), List.drop_zero, Nat.mul_one, ← ints_len xs, List.take_length]; rfl
    · obtain rfl : b' = c := hc
      exact nb
def LLD (h : Hp) (m k : Nat) (v : Value) (n : Nat) (R : Nat → List Int) : Prop :=
  ∃ ws : List Value, SlAt h 1 encV v ws ∧ ws.length = n ∧ (∀ c, blkOf v c → m ≤ c ∧ c < k) ∧ (∀ (i : Nat) w, ws[i]? = some w → WrI h w (R i) ∧ ∀ c, blkOf w c → m ≤ c ∧ c < k ∧ ¬ blkOf v c) ∧ Sep ws
theorem LLD.ll {h : Hp} {m k n : Nat} {v : Value} {R : Nat → List Int} (r : LLD h m k v n R) : LLAt h m v n R := by
  obtain ⟨ws, a, b, c, d, _⟩ := r
  exact ⟨ws, a, b, fun x hx => (c x hx).1, fun i w hw => ⟨(d i w hw).1.1, fun x hx => ((d i w hw).2 x hx).1⟩⟩
theorem LLD.mo {M : Nat → Prop} {h h' : Hp} {m k n : Nat} {v : Value} {R : Nat → List Int} (r : LLD h m k v n R) (g : Mo M h h') (hm : ∀ b, M b → b < m ∨ k ≤ b) : LLD h' m k v n R := by
  obtain ⟨ws, a, b, c, d, e⟩ := r
  exact ⟨ws, a.mo g (fun x hx hM => by have := c x hx; have := hm x hM; omega), b, c, fun i w hw => ⟨(d i w hw).1.mo g (fun x hx hM => by have h1 := (d i w hw).2 x hx; have h2 := h1.1; have h3 := h1.2.1; have := hm x hM; omega), (d i w hw).2⟩, e⟩
theorem LLD.gr {h h' : Hp} {m k n : Nat} {v : Value} {R : Nat → List Int} (r : LLD h m k v n R) (g : Gr h h') : LLD h' m k v n R := r.mo (M := NoM) g.fr (fun _ h => h.elim)
theorem LLD.form {h : Hp} {m k n : Nat} {v : Value} {R : Nat → List Int} (r : LLD h m k v n R) : ∃ a n c, v = .slice a n c := by
  obtain ⟨_, s, _⟩ := r
  rcases s with ⟨rfl, _⟩ | ⟨b, o, s, c, rfl, _⟩ <;> exact ⟨_, _, _, rfl⟩
theorem mem_gkey {M : Nat → Prop} {h0 h : Hp} {v : Value} {ws : List Value} {k : Nat} (S : St M h0 h [] [(v, k, ws)]) {c : Nat} (hb : blkOf v c) : c ∈ keys [] [(v, k, ws)] := by
  have hk : gkey (v, k, ws) = some c := by
    rcases (S.gown (v, k, ws) (List.mem_singleton.2 rfl)).1 with ⟨e, _⟩ | ⟨b, n, e, _⟩
    · rw [show v = _ from e] at hb; exact hb.elim
    · have e' : v = .slice (some ⟨b, 0, some k⟩) n n := e
      rw [e'] at hb ⊢
      exact congrArg some hb
  exact List.mem_filterMap.2 ⟨_, List.mem_singleton.2 rfl, hk⟩
theorem copied_ok {h0 : Hp} (ok : h0.t.Sized h0.n) {v : Value} {m n : Nat} {R : Nat → List Int} (hs : LLAt h0 m v n R) (hn : n < 1000) (hR : ∀ i, i < n → (R i).length < 1000000) :
    Ret Tryz.abEnv 55 [v] h0 fun r h' => Gr h0 h' ∧ LLD h' h0.n h'.n r n R := by
  have S := St.init (M := NoM) ok
  refine enter_ret (n := 18) (rs := [.tmp 2]) rfl Tryz.e55 rfl rfl rfl (lbt rfl) ?_
  simp only [BS, LB, Nat.reduceLT, Nat.reduceEqDiff, Tryz.FFtb555, hs.lenq]
  replace S := S.nilG (k := 1)
  refine loop_ind (fun (i : Nat) ρ h => i ≤ n ∧ ∃ (ws : List Value) (vR : Value), St NoM h0 h [] [(vR, 1, ws)] ∧ ws.length = i ∧ (∀ j w, ws[j]? = some w → WrI h w (R j) ∧ ∀ c, blkOf w c → h0.n ≤ c ∧ c ∉ keys [] [(vR, 1, ws)]) ∧ Sep ws ∧ ρ 2 = vR ∧ ρ 5 = v ∧ ρ 6 = .int .i64 n ∧ ρ 7 = .int .i64 i) (fun i => n - i) ?_ 0 _ _ ?_
  · clear S
    intro i ih ρ h ⟨hi, ws, vR, S, hw, hc, hd, r2, r5, r6, r7⟩
    have fvR : Fl vR := by
      rcases (S.gown _ m0).1 with ⟨e, _⟩ | ⟨_, _, e, _⟩
      · rw [show vR = _ from e]; exact fl_slice
      · rw [show vR = _ from e]; exact fl_slice
    by_cases hlt : i < n
    · obtain ⟨x, ⟨q, o, hidx, hld⟩, hx, _⟩ := (hs.gr S.gr).row hlt
      have fx := hx.fl
      have w : wrapI .i64 ((i : Int) + 1) = ((i + 1 : Nat) : Int) := by rw [wrap64] <;> omega
      simp only [BS, LB, Nat.reduceLT, Nat.reduceEqDiff, Tryz.FFtb555, r2, r5, r6, r7, lt_nat, hlt, hidx, hld]
      have S0 := S
      refine step_ret (clone64W_ok S.ok hx (hR i hlt)) ?_
      rintro y h1 ⟨g, sy, ny⟩
      have S1 := S.call g
      obtain ⟨ya, yn, yc, rfl⟩ := sy.1.form
      have fy : Fl (.slice ya yn yc) := fl_slice
      have old : ∀ (j : Nat) u, (ws ++ [.slice ya yn yc])[j]? = some u → WrI h1 u (R j) ∧ ∀ c, blkOf u c → h0.n ≤ c ∧ c ∉ keys [] [(vR, 1, ws)] ∧ c < h1.n := fun j u hu => by
        rcases get_snoc hu with hu | ⟨rfl, rfl⟩
        · obtain ⟨q1, q2⟩ := hc j u hu
          exact ⟨q1.gr g, fun c hb => ⟨(q2 c hb).1, (q2 c hb).2, (q1.gr g).1.lt S1.ok hb⟩⟩
        · rw [hw]
          exact ⟨sy, fun c hb => ⟨Nat.le_trans S0.fr.n (ny c hb), fun hk => by have := S0.key_lt hk; have := ny c hb; omega, sy.1.lt S1.ok hb⟩⟩
      have sep := hd.push (y := .slice ya yn yc) fun j u hu c hb hy => by
        have := (hc j u hu).1.1.lt S0.ok hb
        have := ny c hy
        omega
      replace S := S1.base
      simp only [BS, LB, Nat.reduceLT, Nat.reduceEqDiff]
      refine step_newS (bs_new (by first | exact Tryz.u24 | exact Tryz.u34) (by first | exact Tryz.e2E | exact Tryz.e24E) (by decide) (by first | rfl | exact fillE )) S ?_; clear S; intro h bs S n_bs; simp only [repL, setL, vcells, List.cons_append, List.nil_append, List.append_nil, List.set_cons_zero, List.set_cons_succ, Nat.reduceMul, Nat.reduceAdd, Nat.zero_mul, Nat.zero_add, Nat.mul_one, Nat.one_mul] at S
      simp only [BS, LB, Nat.reduceLT, Nat.reduceEqDiff]
      have src : srcCells h 1 (.slice (some ⟨bs, 0, none⟩) 1 1) = some (1, [.slice ya yn yc]) := by simp only [srcCells]; rw [S.lds (b := bs) (o := 0) (n := 1 * 1) m0 (lbt rfl)]; rfl
      replace S := S.drop1
      refine step_v (S.grow (j := 0) (m := 1) (new := [.slice ya yn yc]) rfl Tryz.u34 Tryz.e24E (by decide) Tryz.n34 src rfl (by decide) (by simp [fy.2.1]) (by simp; omega)) ?_
      clear S src; rintro h vR' S
      simp only [List.set_cons_zero] at S
      have fv : Fl vR' := by
        rcases (S.gown _ m0).1 with ⟨e, _⟩ | ⟨_, _, e, _⟩
        · rw [show vR' = _ from e]; exact fl_slice
        · rw [show vR' = _ from e]; exact fl_slice
      simp only [BS, LB, Nat.reduceLT, Nat.reduceEqDiff, r7, w]
      refine ih (i + 1) _ _ (by omega) ⟨by omega, ws ++ [.slice ya yn yc], vR', S1.rebase S, by simp [hw], fun j u hu => ⟨(old j u hu).1.mo S.fr (fun c hb => ((old j u hu).2 c hb).2.1), fun c hb => ⟨((old j u hu).2 c hb).1, fun hk => ?_⟩⟩, sep, by simp [setR], by simp [setR, r5], by simp [setR, r6], by simp [setR]⟩
      rcases S.key_new c hk with h2 | h2
      · exact ((old j u hu).2 c hb).2.1 h2
      · have := ((old j u hu).2 c hb).2.2; omega
    · simp only [BS, LB, tupleOf, Nat.reduceLT, Nat.reduceEqDiff, r2, r6, r7, lt_nat, hlt]
      have sl := (S.gown _ m0).1.sl (flat_encV ws).symm encV_len (by decide)
      refine ⟨S.gr, ws, sl, by omega, fun c hb => ⟨((S.gblk m0 hb).1).elim (fun h => h) (fun h => h.elim), sl.lt S.ok hb⟩, fun j u hu => ⟨(hc j u hu).1, fun c hb => ⟨((hc j u hu).2 c hb).1, (hc j u hu).1.1.lt S.ok hb, fun hv => ((hc j u hu).2 c hb).2 ?_⟩⟩, hd⟩
      exact mem_gkey S hv
  · exact ⟨Nat.zero_le _, [], _, S, rfl, fun j w hw => by simp at hw, fun i j w u c hw => by simp at hw, by simp [setR], by simp [setR, argR_zero], by simp [setR], by simp [setR]⟩
end Go.Ab

end
section
namespace Go.Ab
open Go.Proofs
set_option maxRecDepth 10000
open Tryz in
def Tryz.FFtb622 := aj a1 <| aj s1 <| aj z1 <| aj n1 <| aj u2 <| aj a2 <| aj s2 <| aj z2 <| aj i2 <| aj u3 <| aj a3 <| aj s3 <| aj z3 <| aj i3 <| aj u4 <| aj a4 <| aj s4 <| aj z4 <| aj n4 <| aj u24 <| aj a24 <| aj s24 <| aj z24 <| aj q24 <| aj n24 <| aj u31 <| aj a31 <| aj s31 <| aj z31 <| aj q31 <| aj n31 <| aj u32 <| aj a32 <| aj s32 <| aj z32 <| aj q32 <| aj i32 <| aj n32 <| aj u34 <| aj a34 <| aj s34 <| aj z34 <| aj q34 <| aj n34 <| aj a86 <| aj s86 <| aj z86 <| aj i86 <| aj n86 <| aj p86 <| aj ff86 <| d86
theorem tabRows_ok {h0 : Hp} (ok : h0.t.Sized h0.n) {m N : Nat} {p : Value} {l : List Int} {R Q : Nat → List Int} (t : TabAt h0 m p N l R Q) (hl : l.length < 1000) (hR : ∀ i, i < l.length → (R i).length < 1000000) (hQ : ∀ i, i < l.length → (Q i).length < 1000000) :
    Ret Tryz.abEnv 22 [p] h0 fun r h' => Gr h0 h' ∧ ∃ vT vF k, r = .tuple #[vT, vF] ∧ LLD h' h0.n k vT l.length R ∧ LLD h' k h'.n vF l.length Q ∧ h0.n ≤ k ∧ k ≤ h'.n := by
  have S := St.init (M := NoM) ok
  obtain ⟨b, vM, vT, vF, rfl, hr, _, L1, L2, _⟩ := t.ex
  have l2 := hr.load1 (o := 2) rfl
  refine enter_ret (n := 16) (rs := [.tmp 2, .tmp 3]) rfl Tryz.e22 rfl rfl rfl (lbt rfl) ?_
  simp only [BS, LB, Nat.reduceLT, Nat.reduceEqDiff, Tryz.FFtb622]
  refine draw_step (hoist_no rfl) (q := 0) (ps := [(4, 8)]) (by kernel_rfl) ?_
  simp only [BS, LB, cls, Nat.reduceLT, Nat.reduceEqDiff, Nat.reduceAdd, Nat.reducePow, Nat.reduceDiv, Nat.reduceMod, Nat.reduceLeDiff, Tryz.FFtb622, l2]
  refine dn_ret (copied_ok S.ok (L1.gr S.gr) hl hR) ?_
  rintro v h ⟨g, D1⟩
  have k1 := S.fr.n
  have e1 : leaves _ _ b = true := leaves_gr g (hr.lt S.ok)
  replace S := S.call g; replace hr := hr.gr g; clear g
  obtain ⟨ta, tn, tc, rfl⟩ := D1.form
  have l3 := hr.load1 (o := 3) rfl
  simp only [BS, LB, cls, Nat.reduceLT, Nat.reduceEqDiff, Nat.reduceAdd, Nat.reducePow, Nat.reduceDiv, Nat.reduceMod, Nat.reduceLeDiff, Tryz.FFtb622, l3]
  refine dn_ret (copied_ok S.ok (L2.gr S.gr) hl hQ) ?_
  rintro v h ⟨g, D2⟩
  have k2 := S.fr.n
  have k12 := S.ok
  replace S := S.call g; replace D1 := D1.gr g
  obtain ⟨fa, fn, fc, rfl⟩ := D2.form
  simp only [BS, LB, cls, tupleOf, Nat.reduceLT, Nat.reduceEqDiff, Nat.reduceAdd, Nat.reducePow, Nat.reduceDiv, Nat.reduceMod, Nat.reduceLeDiff]
  refine ⟨by simp only [pairs_cons, pairs_nil, entry_noted, entry_hit, entry_miss, ne_eq, not_false_eq_true, note_load, note_run, note_alloc, noted_some, ll_tmp, ll_put, setR_at, Nat.reduceLT, Nat.reduceEqDiff, reduceIte, Bool.and_true, ptr_eq, pair_br e1, pair_rb e1], ?_⟩
  exact ⟨S.gr, _, _, _, rfl, D1, D2, k2, g.n⟩
end Go.Ab

end
section
namespace Go.Ab
open Go.Proofs
set_option maxRecDepth 10000
open Tryz in
def Tryz.FFrl138 := aj a1 <| aj s1 <| aj z1 <| aj n1 <| aj u2 <| aj a2 <| aj s2 <| aj z2 <| aj i2 <| aj u3 <| aj a3 <| aj s3 <| aj z3 <| aj i3 <| aj u4 <| aj a4 <| aj s4 <| aj z4 <| aj n4 <| aj u5 <| aj a5 <| aj s5 <| aj z5 <| aj i5 <| aj u6 <| aj a6 <| aj s6 <| aj z6 <| aj i6 <| aj a7 <| aj s7 <| aj z7 <| aj i7 <| aj n7 <| aj p7 <| aj ff7 <| aj d7 <| aj a8 <| aj s8 <| aj z8 <| aj i8 <| aj n8 <| aj p8 <| aj ff8 <| aj d8 <| aj u9 <| aj a9 <| aj s9 <| aj z9 <| aj n9 <| aj u10 <| aj a10 <| aj s10 <| aj z10 <| aj n10 <| aj u11 <| aj a11 <| aj s11 <| aj z11 <| aj n11 <| aj u12 <| aj a12 <| aj s12 <| aj z12 <| aj i12 <| aj a13 <| aj s13 <| aj z13 <| aj i13 <| aj n13 <| aj p13 <| aj ff13 <| aj d13 <| aj a14 <| aj s14 <| aj z14 <| aj i14 <| aj n14 <| aj p14 <| aj ff14 <| aj d14 <| aj u15 <| aj a15 <| aj s15 <| aj z15 <| aj q15 <| aj i15 <| aj n15 <| aj u16 <| aj a16 <| aj s16 <| aj z16 <| aj q16 <| aj i16 <| aj n16 <| aj u17 <| aj a17 <| aj s17 <| aj z17 <| aj q17 <| aj i17 <| aj n17 <| aj a18 <| aj s18 <| aj z18 <| aj i18 <| aj n18 <| aj p18 <| aj ff18 <| aj d18 <| aj a19 <| aj s19 <| aj z19 <| aj i19 <| aj n19 <| aj p19 <| aj ff19 <| aj d19 <| aj u24 <| aj a24 <| aj s24 <| aj z24 <| aj q24 <| aj n24 <| aj u25 <| aj a25 <| aj s25 <| aj z25 <| aj q25 <| aj n25 <| aj a27 <| aj s27 <| aj z27 <| aj i27 <| aj n27 <| aj p27 <| aj ff27 <| aj d27 <| aj a51 <| aj s51 <| aj z51 <| aj i51 <| aj n51 <| aj p51 <| aj ff51 <| aj d51 <| aj u199 <| aj a199 <| aj s199 <| aj z199 <| aj i199 <| aj u203 <| aj a203 <| aj s203 <| aj z203 <| aj i203 <| aj a237 <| aj s237 <| aj z237 <| aj i237 <| aj n237 <| aj p237 <| aj ff237 <| aj d237 <| aj u238 <| aj a238 <| aj s238 <| aj z238 <| aj n238 <| aj a240 <| aj s240 <| aj z240 <| aj i240 <| aj n240 <| aj u242 <| aj a242 <| aj s242 <| aj z242 <| aj i242 <| aj a243 <| aj s243 <| aj z243 <| aj n243 <| aj u244 <| aj a244 <| aj s244 <| aj z244 <| aj q244 <| aj i244 <| aj n244 <| aj u245 <| aj a245 <| aj s245 <| aj z245 <| aj i245 <| aj u246 <| aj a246 <| aj s246 <| aj z246 <| aj i246 <| aj a248 <| aj s248 <| aj z248 <| aj i248 <| aj n248 <| aj p248 <| aj ff248 <| d248
theorem St.toL {M : Nat → Prop} {h0 h : Hp} {L : List (Nat × Ob)} {v : Value} {vs : List Value} (S : St M h0 h L [(v, 1, vs)]) (hne : vs ≠ []) : ∃ b, v = .slice (some ⟨b, 0, some 1⟩) vs.length vs.length ∧ St M h0 h ((b, .row vs 1) :: L) [] := by
  obtain ⟨g, k⟩ := S.gown _ (List.mem_singleton.2 rfl)
  rcases g with ⟨_, e⟩ | ⟨b, n, e1, e2, e3⟩
  · exact absurd e hne
  · have en : n = vs.length := by rw [← show n * 1 = vs.length from e2, Nat.mul_one]
    subst en
    have ev : v = .slice (some ⟨b, 0, some 1⟩) vs.length vs.length := e1
    have hk : gkey (v, 1, vs) = some b := by rw [ev]; rfl
    have ap := S.apart
    have nb : b ∉ L.map Prod.fst := by
      have h1 := ap
      unfold keys at h1
      rw [List.nodup_append] at h1
      exact fun hc => h1.2.2 b hc b (List.mem_filterMap.2 ⟨_, List.mem_singleton.2 rfl, hk⟩) rfl
    refine ⟨b, ev, St.push (St.sub S (List.Sublist.refl _) (List.nil_sublist _)) (k b hk) e3 ?_⟩
    simpa [keys] using nb
def cellN (N : Nat) (l : Nat → Nat) : List Value := (List.range N).map fun v => .int .i64 (l v : Nat)
theorem cellN_at {N : Nat} {l : Nat → Nat} {v : Nat} (h : v < N) : (cellN N l)[v]? = some (.int .i64 (l v : Nat)) := mapr_at (F := fun v => Value.int .i64 ((l v : Nat) : Int)) h
theorem cellN_len (N : Nat) (l : Nat → Nat) : (cellN N l).length = N := by simp [cellN]
theorem cellN_set {N : Nat} {l : Nat → Nat} {v x : Nat} : (cellN N l).set v (.int .i64 (x : Nat)) = cellN N (updD l v x) := by
  have := mapr_set (N := N) (k := v) (F := fun v => Value.int .i64 ((l v : Nat) : Int)) (F' := fun u => Value.int .i64 ((updD l v x u : Nat) : Int)) (fun u _ hu => by unfold updD; rw [if_neg hu])
  unfold cellN
  rw [← this]
  simp [updD]
def Rlx (B : List Arc) (k : Nat) (l : Nat → Nat) : Prop := ∀ j, j < k → l (B.getD j default).s < FAR → l (B.getD j default).t ≤ l (B.getD j default).s + (B.getD j default).w
theorem rlx_all {B : List Arc} {l : Nat → Nat} (h : Rlx B B.length l) : ∀ a ∈ B, l a.s < FAR → l a.t ≤ l a.s + a.w := by
  intro a ha
  obtain ⟨i, hi, e⟩ := List.mem_iff_getElem.1 ha
  have := h i hi
  rwa [List.getD_eq_getElem?_getD, List.getElem?_eq_getElem hi, Option.getD_some, e] at this
theorem least_ok {h0 : Hp} (ok : h0.t.Sized h0.n) {γ : Gra} (hγ : Good γ) {vx vy va : Value} (ga : GraphAt h0 vx vy va γ) {s : Nat} (hs : s < γ.nodes) (hD : ∀ v, v < γ.nodes → IsD γ.arcs s v (dOf γ.arcs s v)) :
    Ret Tryz.abEnv 38 [rawV γ vx vy va, .int .i64 s] h0 fun r h' => Gr h0 h' ∧ SlAt h' 1 (encI .i64) r (rowD γ.arcs γ.nodes s) ∧ ∀ c, blkOf r c → h0.n ≤ c := by
  have S := St.init (M := NoM) ok
  have n1 := hγ.n1
  have n2 := hγ.n2
  have many := hγ.many
  have fx := ga.X.fl
  have fy := ga.Y.fl
  have fa := ga.A.fl
  have hF := FAR_eq
  refine enter_ret (n := 78) (rs := [.tmp 4]) rfl Tryz.e38 rfl rfl rfl (lbt rfl) ?_
  simp only [BS, Nat.reduceLT, rawV]
  refine step_newS (box_new (by intro x e; cases e)) S ?_; clear S; intro h b2 S n_b2; simp only [vcells] at S
  simp only [BS]
  replace S := S.nilG (k := 1)
  refine loop_ind (fun (i : Nat) ρ h => i ≤ γ.nodes ∧ ∃ (vR : Value), St NoM h0 h [(b2, .row [.int .i64 γ.nodes, vx, vy, va] 1)] [(vR, 1, List.replicate i (.int .i64 72057594037927936))] ∧ ρ 1 = .int .i64 s ∧ ρ 2 = ptrTo b2 ∧ ρ 5 = vR ∧ ρ 6 = .int .i64 i) (fun i => γ.nodes - i) ?_ 0 _ _ ?_
  · clear S
    intro i ih ρ h ⟨hi, vR, S, r1, r2, r5, r6⟩
    by_cases hlt : i < γ.nodes
    · have w : wrapI .i64 ((i : Int) + 1) = ((i + 1 : Nat) : Int) := by rw [wrap64] <;> omega
      simp only [BS, LB, Nat.reduceLT, Nat.reduceEqDiff, Tryz.FFrl138, r2, r5, r6, lt_nat, hlt, S.ld (b := b2) (o := 0) (by repeat constructor) rfl]
      refine step_newS (bs_new (by first | exact Tryz.u24 | exact Tryz.u25) (by first | exact Tryz.e2E | exact Tryz.e51E) (by decide) (by first | rfl | exact fillE )) S ?_; clear S; intro h bt S n_bt; simp only [repL, setL, vcells, List.cons_append, List.nil_append, List.append_nil, List.set_cons_zero, List.set_cons_succ, Nat.reduceMul, Nat.reduceAdd, Nat.zero_mul, Nat.zero_add, Nat.mul_one, Nat.one_mul] at S
      simp only [BS, LB, Nat.reduceLT, Nat.reduceEqDiff]
      have src : srcCells h 1 (.slice (some ⟨bt, 0, none⟩) 1 1) = some (1, [.int .i64 72057594037927936]) := by simp only [srcCells]; rw [S.lds (b := bt) (o := 0) (n := 1 * 1) m0 (lbt rfl)]; rfl
      replace S := S.drop1
      refine step_v (S.grow (j := 0) (m := 1) (new := [.int .i64 72057594037927936]) rfl Tryz.u24 Tryz.e2E (by decide) Tryz.n24 src rfl (by decide) rfl (by simp; omega)) ?_
      clear S src; rintro h vR' S
      simp only [List.set_cons_zero, ← List.replicate_succ'] at S
      simp only [BS, LB, Nat.reduceLT, Nat.reduceEqDiff, r6, w]
      exact ih (i + 1) _ _ (by omega) ⟨by omega, vR', S, by simp [setR, r1], by simp [setR, r2, ptr_eq], by simp [setR], by simp [setR]⟩
    · have hiN : i = γ.nodes := by omega
      subst hiN
      have c1 : ¬ ((s : Int) < 0) := by omega
      have c2 : ¬ ((γ.nodes : Int) ≤ (s : Int)) := by omega
      obtain ⟨bl, ev, S2⟩ := S.toL (by intro e; have := congrArg List.length e; simp at this; omega)
      clear S
      have S := S2
      clear S2
      rw [List.length_replicate] at ev
      subst ev
      have e0 : List.replicate γ.nodes (Value.int .i64 72057594037927936) = cellN γ.nodes fun _ => FAR := by
        unfold cellN
        rw [List.map_const', List.length_range]; rfl
      rw [e0] at S
      have ips : idxP (.int .i64 (s : Int)) γ.nodes = some s := idxP_nat hs
      simp only [BS, LB, Nat.reduceLT, Nat.reduceEqDiff, Tryz.FFrl138, r1, r2, r5, r6, lt_nat, hlt, c1, c2, ips, S.ld (b := b2) (o := 0) (by repeat constructor) rfl]
      refine step_u (store_fl S (i := 0) rfl Tryz.s2 fl_int (by rw [cellN_len]; omega) ono) ?_
      clear S; rintro h ⟨S, _⟩
      have e1 : ((0 : Int)) = ((0 : Nat) : Int) := rfl
      simp only [List.set_cons_zero] at S
      rw [e1, cellN_set] at S
      simp only [BS]
      have L0 : Ls γ.arcs s γ.nodes (updD (fun _ => FAR) s 0) := by
        refine ⟨fun v => ?_, fun v => ?_, by simp [updD]⟩
        · unfold updD; split
          · omega
          · exact Nat.le_refl _
        · unfold updD; split
          · rename_i e; subst e; exact .inr .nil
          · exact .inl rfl
      refine loop_ind (fun (a : (Nat → Nat) × Bool) ρ h => Ls γ.arcs s γ.nodes a.1 ∧ St NoM h0 h [(bl, .row (cellN γ.nodes a.1) 1), (b2, .row [.int .i64 γ.nodes, vx, vy, va] 1)] [] ∧ (a.2 = false → Rlx γ.arcs γ.arcs.length a.1) ∧ ρ 2 = ptrTo b2 ∧ ρ 5 = .slice (some ⟨bl, 0, some 1⟩) γ.nodes γ.nodes ∧ ρ 7 = .bool a.2) (fun a => 2 * sumTo a.1 γ.nodes + a.2.toNat) ?_ (updD (fun _ => FAR) s 0, true) _ _ ?_
      · clear S L0 e0 r1 r2 r5 r6 hi ih
        rintro ⟨l, more⟩ ih ρ h ⟨hL, S, hr, r2, r5, r7⟩
        cases more with
        | false =>
          simp only [BS, LB, tupleOf, Nat.reduceLT, Nat.reduceEqDiff, r5, r7]
          have row := S.row (b := bl) m0
          have ec : cellN γ.nodes l = ints (rowD γ.arcs γ.nodes s) := by
            unfold cellN rowD
            rw [ints_map, List.map_map]
            refine List.map_congr_left fun v hv => ?_
            have hv := List.mem_range.1 hv
            have := hL.isD (rlx_all (hr rfl)) (hD v hv)
            have this : l v = dOf γ.arcs s v := this
            show Value.int .i64 ((l v : Nat) : Int) = _
            rw [this]; rfl
          rw [ec] at row
          refine ⟨S.gr, .inr ⟨bl, 0, some 1, γ.nodes, by rw [rowD_len], by rw [rowD_len]; omega, ?_⟩, fun c hc => ?_⟩
          · rw [row.load (by rw [ints_len]; omega), List.drop_zero, Nat.mul_one, ← ints_len (rowD γ.arcs γ.nodes s), List.take_length]; rfl
          · obtain rfl : bl = c := hc
            exact (S.own _ m0).1.elim (fun h => h) (fun h => h.elim)
        | true =>
          simp only [BS, LB, Nat.reduceLT, r7]
          refine loop_ind (fun (k : Nat) ρ h => k ≤ γ.arcs.length ∧ ∃ (l' : Nat → Nat) (ch : Bool), Ls γ.arcs s γ.nodes l' ∧ St NoM h0 h [(bl, .row (cellN γ.nodes l') 1), (b2, .row [.int .i64 γ.nodes, vx, vy, va] 1)] [] ∧ ((ch = false ∧ l' = l ∧ Rlx γ.arcs k l) ∨ (ch = true ∧ sumTo l' γ.nodes < sumTo l γ.nodes)) ∧ ρ 2 = ptrTo b2 ∧ ρ 5 = .slice (some ⟨bl, 0, some 1⟩) γ.nodes γ.nodes ∧ ρ 7 = .bool ch ∧ ρ 8 = .int .i64 k) (fun k => γ.arcs.length - k) ?_ 0 _ _ ?_
          · clear S r2 r5 r7 hL
            intro k ihk ρ h ⟨hk, l', ch, hL, S, hc, r2, r5, r7, r8⟩
            have wk : wrapI .i64 ((k : Int) + 1) = ((k + 1 : Nat) : Int) := by rw [wrap64] <;> omega
            have gaC := ga.A.gr S.gr
            by_cases hkt : k < γ.arcs.length
            · obtain ⟨c3, o3, x3, y3⟩ := gaC.ix (kd := .i64) encA_len hkt
              have am := List.getElem_mem hkt
              obtain ⟨a1, a2, a3⟩ := hγ.arcs _ am
              have ags : γ.arcs.getD k default = γ.arcs[k] := by simp [List.getD_eq_getElem?_getD, hkt]
              generalize γ.arcs[k] = a at am a1 a2 a3 ags y3
              have d1 := hL.le a.s
              have d2 := hL.le a.t
              simp only [BS, LB, Nat.reduceLT, Nat.reduceEqDiff, Tryz.FFrl138, r2, r8, gaC.lenq, lt_nat, hkt, x3, y3, S.ld (b := b2) (o := 3) (by repeat constructor) rfl]
              refine step_newS allocR_new S ?_; clear S; intro h b9 S n_b9
              simp only [BS, LB, Nat.reduceLT, Nat.reduceEqDiff, encA]
              first | refine step_u (S.store (i := 0) rfl ?_ ?_ rfl rfl ?_ ono) ?_ | refine step_u (S.store (i := 1) rfl ?_ ?_ rfl rfl ?_ ono) ?_ | refine step_u (S.store (i := 2) rfl ?_ ?_ rfl rfl ?_ ono) ?_ | refine step_u (S.store (i := 3) rfl ?_ ?_ rfl rfl ?_ ono) ?_ | refine step_u (S.store (i := 4) rfl ?_ ?_ rfl rfl ?_ ono) ?_ | refine step_u (S.store (i := 5) rfl ?_ ?_ rfl rfl ?_ ono) ?_ | refine step_u (S.store (i := 6) rfl ?_ ?_ rfl rfl ?_ ono) ?_ | refine step_u (S.store (i := 7) rfl ?_ ?_ rfl rfl ?_ ono) ?_
              · exact (by first | exact Tryz.s7 | exact Tryz.s8 | exact Tryz.s13 | exact Tryz.s14 | exact Tryz.s18 | exact Tryz.s19 | exact Tryz.s27 | exact Tryz.s51 | exact Tryz.s237 | exact Tryz.s238 | exact Tryz.s240 | exact Tryz.s248)
              · exact (by intro x e; cases e)
              · exact lbt rfl
              clear S; rintro h ⟨S, mo⟩; clear mo; simp only [List.set_cons_zero, List.set_cons_succ, vcells, lay, List.take, List.drop, List.nil_append, List.cons_append, List.append_nil, List.length_cons, List.length_nil, Nat.reduceAdd, Nat.add_zero] at S
              have ips : idxP (.int .i64 (a.s : Int)) γ.nodes = some a.s := idxP_nat a1
              have ipt : idxP (.int .i64 (a.t : Int)) γ.nodes = some a.t := idxP_nat a2
              have lds := S.ld (b := bl) (o := a.s) m1 (cellN_at a1)
              have ldt := S.ld (b := bl) (o := a.t) m1 (cellN_at a2)
              have wsum : wrapI .i64 ((l' a.s : Int) + (a.w : Int)) = ((l' a.s + a.w : Nat) : Int) := by rw [wrap64] <;> omega
              simp only [BS]
              refine draw_step (hoist_no rfl) (q := 0) (ps := []) (by kernel_rfl) ?_
              by_cases e1 : l' a.s < FAR
              · have e1' : (l' a.s : Int) < 72057594037927936 := by omega
                by_cases e2 : l' a.s + a.w < l' a.t
                · have e2' : ((l' a.s + a.w : Nat) : Int) < (l' a.t : Int) := by omega
                  simp only [BS, LB, cls, Nat.reduceLT, Nat.reduceEqDiff, Nat.reduceAdd, Nat.reducePow, Nat.reduceDiv, Nat.reduceMod, Nat.reduceLeDiff, Tryz.FFrl138, r5, ips, ipt, lds, ldt, wsum, e1', e2', S.ld (b := b9) (o := 0) (by repeat constructor) rfl, S.ld (b := b9) (o := 1) (by repeat constructor) rfl, S.ld (b := b9) (o := 2) (by repeat constructor) rfl]
                  refine draw_step (hoist_no rfl) (q := 0) (ps := []) (by kernel_rfl) ?_
                  simp only [BS, LB, cls, Nat.reduceLT, Nat.reduceEqDiff, Nat.reduceAdd, Nat.reducePow, Nat.reduceDiv, Nat.reduceMod, Nat.reduceLeDiff, Tryz.FFrl138, r5, ips, ipt, lds, wsum, S.ld (b := b9) (o := 0) (by repeat constructor) rfl, S.ld (b := b9) (o := 1) (by repeat constructor) rfl, S.ld (b := b9) (o := 2) (by repeat constructor) rfl]
                  refine dn_u (store_fl S (i := 1) rfl Tryz.s2 fl_int (by rw [cellN_len]; omega) ono) ?_
                  clear S lds ldt; rintro h ⟨S, _⟩
                  simp only [List.set_cons_zero, List.set_cons_succ, cellN_set] at S
                  simp only [BS, LB, Nat.reduceLT, Nat.reduceEqDiff, Nat.reduceAdd, r8, wk]
                  have hsum := sum_upd (l := l') (v := a.t) (x := l' a.s + a.w) a2
                  refine ihk (k + 1) _ _ (by omega) ⟨by omega, _, true, hL.step am e1 e2, S.drop1, .inr ⟨rfl, ?_⟩, by simp [setR, r2, ptr_eq], by simp [setR, r5], by simp [setR], by simp [setR]⟩
                  rcases hc with ⟨_, rfl, _⟩ | ⟨_, h⟩ <;> omega
                · have e2' : ¬ ((l' a.s + a.w : Nat) : Int) < (l' a.t : Int) := by omega
                  simp only [BS, LB, cls, Nat.reduceLT, Nat.reduceEqDiff, Nat.reduceAdd, Nat.reducePow, Nat.reduceDiv, Nat.reduceMod, Nat.reduceLeDiff, Tryz.FFrl138, r5, r8, ips, ipt, lds, ldt, wsum, e1', e2', wk, S.ld (b := b9) (o := 0) (by repeat constructor) rfl, S.ld (b := b9) (o := 1) (by repeat constructor) rfl, S.ld (b := b9) (o := 2) (by repeat constructor) rfl]
                  refine ihk (k + 1) _ _ (by omega) ⟨by omega, _, ch, hL, S.drop1, hc.imp (fun ⟨x, y, z⟩ => ⟨x, y, fun j hj => ?_⟩) id, by simp [setR, r2, ptr_eq], by simp [setR, r5], by simp [setR, r7], by simp [setR]⟩
                  by_cases ej : j = k
                  · subst ej; subst y; rw [ags]; intro _; omega
                  · exact z j (by omega)
              · have e1' : ¬ (l' a.s : Int) < 72057594037927936 := by omega
                simp only [BS, LB, cls, Nat.reduceLT, Nat.reduceEqDiff, Nat.reduceAdd, Nat.reducePow, Nat.reduceDiv, Nat.reduceMod, Nat.reduceLeDiff, Tryz.FFrl138, r5, r8, ips, lds, e1', wk, S.ld (b := b9) (o := 0) (by repeat constructor) rfl, S.ld (b := b9) (o := 1) (by repeat constructor) rfl, S.ld (b := b9) (o := 2) (by repeat constructor) rfl]
                refine ihk (k + 1) _ _ (by omega) ⟨by omega, _, ch, hL, S.drop1, hc.imp (fun ⟨x, y, z⟩ => ⟨x, y, fun j hj => ?_⟩) id, by simp [setR, r2, ptr_eq], by simp [setR, r5], by simp [setR, r7], by simp [setR]⟩
                by_cases ej : j = k
                · subst ej; subst y; rw [ags]; intro h; exact absurd h e1
                · exact z j (by omega)
            · simp only [BS, LB, tupleOf, Nat.reduceLT, Nat.reduceEqDiff, Tryz.FFrl138, r2, r5, r8, gaC.lenq, lt_nat, hkt, S.ld (b := b2) (o := 3) (by repeat constructor) rfl]
              have hk' : k = γ.arcs.length := by omega
              subst hk'
              refine ih (l', ch) _ _ ?_ ⟨hL, S, fun h => ?_, by simp [setR, r2, ptr_eq], by simp [setR, r5], by simp [setR, r7]⟩
              · rcases hc with ⟨rfl, rfl, _⟩ | ⟨rfl, h⟩
                · simp
                · simp; omega
              · rcases hc with ⟨_, rfl, h⟩ | ⟨h2, _⟩
                · exact h
                · exact absurd (h2.symm.trans h) (by decide)
          · exact ⟨Nat.zero_le _, l, false, hL, S, .inl ⟨rfl, rfl, fun j hj => by omega⟩, by simp [setR, r2, ptr_eq], by simp [setR, r5], by simp [setR], by simp [setR]⟩
      · exact ⟨L0, S, fun h => (by cases h), by simp [setR, r2, ptr_eq], by simp [setR, r5], by simp [setR]⟩
  · exact ⟨Nat.zero_le _, _, S, by simp [setR, argR_zero, argR_succ], by simp [setR, ptr_eq], by simp [setR], by simp [setR]⟩
end Go.Ab

end
