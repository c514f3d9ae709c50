/- Nets, cells, flags: what the functions do (part 3). -/
import Derived.Test.YtnnimodkmjedaaaGreatDoorNetB
set_option maxHeartbeats 4000000
set_option linter.defProp false
set_option linter.unusedVariables false
set_option linter.unusedSimpArgs false
section
namespace Go.Ab
open Go.Proofs
set_option maxRecDepth 10000
open Tryz in
def Tryz.FFf2181 := aj a1 <| aj s1 <| aj z1 <| aj n1 <| aj u2 <| aj a2 <| aj s2 <| aj z2 <| aj i2 <| aj u3 <| aj a3 <| aj s3 <| aj z3 <| aj i3 <| aj u4 <| aj a4 <| aj s4 <| aj z4 <| aj n4 <| aj u5 <| aj a5 <| aj s5 <| aj z5 <| aj i5 <| aj u6 <| aj a6 <| aj s6 <| aj z6 <| aj i6 <| aj a7 <| aj s7 <| aj z7 <| aj i7 <| aj n7 <| aj p7 <| aj ff7 <| aj d7 <| aj a8 <| aj s8 <| aj z8 <| aj i8 <| aj n8 <| aj p8 <| aj ff8 <| aj d8 <| aj u9 <| aj a9 <| aj s9 <| aj z9 <| aj n9 <| aj u10 <| aj a10 <| aj s10 <| aj z10 <| aj n10 <| aj a20 <| aj s20 <| aj z20 <| aj q20 <| aj n20 <| aj u25 <| aj a25 <| aj s25 <| aj z25 <| aj q25 <| aj n25 <| aj u240 <| aj a240 <| aj s240 <| aj z240 <| i240
open Tryz in
def Tryz.FFf2111 := aj a1 <| aj s1 <| aj z1 <| aj n1 <| aj u2 <| aj a2 <| aj s2 <| aj z2 <| aj i2 <| aj u3 <| aj a3 <| aj s3 <| aj z3 <| aj i3 <| aj u4 <| aj a4 <| aj s4 <| aj z4 <| aj n4 <| aj u5 <| aj a5 <| aj s5 <| aj z5 <| aj i5 <| aj u6 <| aj a6 <| aj s6 <| aj z6 <| aj i6 <| aj a7 <| aj s7 <| aj z7 <| aj i7 <| aj n7 <| aj p7 <| aj ff7 <| aj d7 <| aj a8 <| aj s8 <| aj z8 <| aj i8 <| aj n8 <| aj p8 <| aj ff8 <| aj d8 <| aj u9 <| aj a9 <| aj s9 <| aj z9 <| aj n9 <| aj u10 <| aj a10 <| aj s10 <| aj z10 <| aj n10 <| aj a20 <| aj s20 <| aj z20 <| aj q20 <| aj n20 <| aj u43 <| aj a43 <| aj s43 <| aj z43 <| aj q43 <| aj n43 <| aj u240 <| aj a240 <| aj s240 <| aj z240 <| i240
theorem rep64_ok {h0 : Hp} (ok : h0.t.Sized h0.n) {v : Value} {x : Int} {N : Nat} (hv : aB h0 1 (encI .i64) v [x]) (h1 : 1 ≤ N) (hN : N < 1000) : Ret Tryz.abEnv 181 [v, .int .i64 N] h0 fun r h' => Gr h0 h' ∧ ∃ b, r = .slice (some ⟨b, 0, none⟩) N N ∧ h0.n ≤ b ∧ Row h' b (List.replicate N (.int .i64 x)) 1 := by
 have S := St.init (M := NoM) ok
 have c1 : ¬ ((N : Int) < 0) := by omega
 have c2 : ¬ ((9223372036854775807 : Int) < (N : Int)) := by omega
 have wn : au .u64 (N : Int) = (N : Int) := py (by omega) (by omega)
 have w1 : au .u64 1 = 1 := rfl
 have wm : au .i64 (N : Int) = (N : Int) := by rw [wrap64] <;> omega
 obtain ⟨bx, ox, sx, cx, rfl, hcx, hx⟩ : ∃ b o s c, v = .slice (some ⟨b, o, s⟩) 1 c ∧ 1 ≤ c ∧ h0.load b o 1 = some [.int .i64 x] := by
  rcases hv with ⟨_, h⟩ | ⟨b, o, s, c, rfl, h2, h3⟩
  · cases h
  · exact ⟨b, o, s, c, rfl, h2, h3⟩
 refine ah (n := 48) (rs := [.tmp 4]) rfl Tryz.e181 rfl rfl rfl (lbt rfl) ?_
 simp only [BS, LB, fQ, bI, fS, Nat.reduceLT, Nat.reduceEqDiff, Int.cast_ofNat_Int, Tryz.FFf2181, c1, wn, w1]
 refine ar (mul_ok S.ok hN) ?_; intro h g; replace S := S.call g; clear g
 simp only [BS, LB, fQ, bI, fS, Nat.reduceLT, Nat.reduceEqDiff, Int.reduceLT, Tryz.FFf2181, c2, wm]
 refine ao (kz (by first | exact Tryz.u25) (by first | exact Tryz.e2E) (by omega) (by omega)) S ?_; clear S; intro h bb S n_bb
 rw [Int.toNat_natCast, kh] at S
 simp only [BS, LB, Nat.reduceLT, Nat.reduceEqDiff, Int.toNat_natCast]
 refine dt (S.copyO (i := 0) (l := List.replicate 1 (.int .i64 x)) rfl Tryz.u25 Tryz.s2 (by rw [gH h1]; decide) (by rw [gH h1]; exact S.old hx (fun h => h)) (by simp; omega) rfl) ?_
 clear S; rintro h w ⟨rfl, S⟩
 simp only [List.set_cons_zero] at S
 rw [show List.replicate N (Value.int .i64 0) = List.replicate 0 (.int .i64 x) ++ List.replicate N (.int .i64 0) by simp, nl h1] at S
 rw [gH h1]
 simp only [BS, LB, Nat.reduceLT, Nat.reduceEqDiff, Int.cast_ofNat_Int]
 refine bE (fun (n : Nat) ρ h => 1 ≤ n ∧ n ≤ N ∧ St NoM h0 h [(bb, .row (List.replicate n (.int .i64 x) ++ List.replicate (N - n) (.int .i64 0)) 1)] [] ∧ ρ 7 = .slice (some ⟨bb, 0, none⟩) N N ∧ ρ 8 = .int .i64 n) (fun n => N - n) ?_ 1 _ _ ?_
 · clear S
   intro n ih ρ h ⟨hn1, hn, S, r7, r8⟩
   by_cases hlt : n < N
   · simp only [BS, LB, Nat.reduceLT, Nat.reduceEqDiff, Tryz.FFf2181, r7, r8, aF, hlt]
     refine aI (aR rfl) (q := 0) (ps := []) (by kernel_rfl) ?_
     simp only [BS, LB, cls, Nat.reduceLT, Nat.reduceEqDiff, Nat.reduceAdd, Nat.reducePow, Nat.reduceDiv, Nat.reduceMod, Nat.reduceLeDiff, Option.map_some, Option.map_none, r7, r8, sb Tryz.u25 Tryz.s2 hlt, qA Tryz.u25 Tryz.s2 (Nat.le_of_lt hlt)]
     have hm : 0 < df n (N - n) := by
      rcases Nat.le_total n (N - n) with h | h
      · rw [gH h]; omega
      · rw [nH h]; omega
     have hm2 : df n (N - n) ≤ N - n ∧ df n (N - n) ≤ n := by
      rcases Nat.le_total n (N - n) with h | h
      · rw [gH h]; omega
      · rw [nH h]; omega
     refine dn_v (S.copyO (i := 0) (l := List.replicate (df n (N - n)) (.int .i64 x)) rfl Tryz.u25 Tryz.s2 hm ?_ (by simp; omega) (by simp; right; rfl)) ?_
     · rw [(S.row m0).load (by simp; omega), Nat.mul_one, List.drop_zero]
       congr 1
       rw [List.take_append_of_le_length (by simp; omega), List.take_replicate]
       congr 1
       omega
     clear S; rintro h w ⟨rfl, S⟩
     simp only [List.set_cons_zero] at S
     rw [nl hm2.1] at S
     generalize df n (N - n) = k at S hm hm2
     have w : au .i64 ((n : Int) + (k : Int)) = ((n + k : Nat) : Int) := by rw [wrap64] <;> omega
     simp only [BS, LB, cls, Nat.reduceLT, Nat.reduceEqDiff, Nat.reduceAdd, Nat.reducePow, Nat.reduceDiv, Nat.reduceMod, Nat.reduceLeDiff, w]
     exact ih (n + k) _ _ (by omega) ⟨by omega, by omega, by rw [show N - (n + k) = N - n - k by omega]; exact S, by simp [aa, r7], by simp [aa]⟩
   · simp only [BS, LB, ag, Nat.reduceLT, Nat.reduceEqDiff, Tryz.FFf2181, r7, r8, aF, hlt]
     have e : n = N := by omega
     subst e
     have R := S.row (b := bb) m0
     rw [Nat.sub_self, List.replicate_zero, List.append_nil] at R
     exact ⟨S.gr, bb, rfl, n_bb, R⟩
 · exact ⟨Nat.le_refl _, h1, by simpa using S, by simp [aa], by simp [aa]⟩
theorem repI_ok {h0 : Hp} (ok : h0.t.Sized h0.n) {v : Value} {x : Int} {N : Nat} (hv : aB h0 1 (encI .i64) v [x]) (h1 : 1 ≤ N) (hN : N < 1000) : Ret Tryz.abEnv 111 [v, .int .i64 N] h0 fun r h' => Gr h0 h' ∧ ∃ b, r = .slice (some ⟨b, 0, none⟩) N N ∧ h0.n ≤ b ∧ Row h' b (List.replicate N (.int .i64 x)) 1 := by
 have S := St.init (M := NoM) ok
 have c1 : ¬ ((N : Int) < 0) := by omega
 have c2 : ¬ ((9223372036854775807 : Int) < (N : Int)) := by omega
 have wn : au .u64 (N : Int) = (N : Int) := py (by omega) (by omega)
 have w1 : au .u64 1 = 1 := rfl
 have wm : au .i64 (N : Int) = (N : Int) := by rw [wrap64] <;> omega
 obtain ⟨bx, ox, sx, cx, rfl, hcx, hx⟩ : ∃ b o s c, v = .slice (some ⟨b, o, s⟩) 1 c ∧ 1 ≤ c ∧ h0.load b o 1 = some [.int .i64 x] := by
  rcases hv with ⟨_, h⟩ | ⟨b, o, s, c, rfl, h2, h3⟩
  · cases h
  · exact ⟨b, o, s, c, rfl, h2, h3⟩
 refine ah (n := 48) (rs := [.tmp 4]) rfl Tryz.e111 rfl rfl rfl (lbt rfl) ?_
 simp only [BS, LB, fQ, bI, fS, Nat.reduceLT, Nat.reduceEqDiff, Int.cast_ofNat_Int, Tryz.FFf2111, c1, wn, w1]
 refine ar (mul_ok S.ok hN) ?_; intro h g; replace S := S.call g; clear g
 simp only [BS, LB, fQ, bI, fS, Nat.reduceLT, Nat.reduceEqDiff, Int.reduceLT, Tryz.FFf2111, c2, wm]
 refine ao (kz (by first | exact Tryz.u43) (by first | exact Tryz.e3E) (by omega) (by omega)) S ?_; clear S; intro h bb S n_bb
 rw [Int.toNat_natCast, kh] at S
 simp only [BS, LB, Nat.reduceLT, Nat.reduceEqDiff, Int.toNat_natCast]
 refine dt (S.copyO (i := 0) (l := List.replicate 1 (.int .i64 x)) rfl Tryz.u43 Tryz.s3 (by rw [gH h1]; decide) (by rw [gH h1]; exact S.old hx (fun h => h)) (by simp; omega) rfl) ?_
 clear S; rintro h w ⟨rfl, S⟩
 simp only [List.set_cons_zero] at S
 rw [show List.replicate N (Value.int .i64 0) = List.replicate 0 (.int .i64 x) ++ List.replicate N (.int .i64 0) by simp, nl h1] at S
 rw [gH h1]
 simp only [BS, LB, Nat.reduceLT, Nat.reduceEqDiff, Int.cast_ofNat_Int]
 refine bE (fun (n : Nat) ρ h => 1 ≤ n ∧ n ≤ N ∧ St NoM h0 h [(bb, .row (List.replicate n (.int .i64 x) ++ List.replicate (N - n) (.int .i64 0)) 1)] [] ∧ ρ 7 = .slice (some ⟨bb, 0, none⟩) N N ∧ ρ 8 = .int .i64 n) (fun n => N - n) ?_ 1 _ _ ?_
 · clear S
   intro n ih ρ h ⟨hn1, hn, S, r7, r8⟩
   by_cases hlt : n < N
   · simp only [BS, LB, Nat.reduceLT, Nat.reduceEqDiff, Tryz.FFf2111, r7, r8, aF, hlt]
     refine aI (aR rfl) (q := 0) (ps := []) (by kernel_rfl) ?_
     simp only [BS, LB, cls, Nat.reduceLT, Nat.reduceEqDiff, Nat.reduceAdd, Nat.reducePow, Nat.reduceDiv, Nat.reduceMod, Nat.reduceLeDiff, Option.map_some, Option.map_none, r7, r8, sb Tryz.u43 Tryz.s3 hlt, qA Tryz.u43 Tryz.s3 (Nat.le_of_lt hlt)]
     have hm : 0 < df n (N - n) := by
      rcases Nat.le_total n (N - n) with h | h
      · rw [gH h]; omega
      · rw [nH h]; omega
     have hm2 : df n (N - n) ≤ N - n ∧ df n (N - n) ≤ n := by
      rcases Nat.le_total n (N - n) with h | h
      · rw [gH h]; omega
      · rw [nH h]; omega
     refine dn_v (S.copyO (i := 0) (l := List.replicate (df n (N - n)) (.int .i64 x)) rfl Tryz.u43 Tryz.s3 hm ?_ (by simp; omega) (by simp; right; rfl)) ?_
     · rw [(S.row m0).load (by simp; omega), Nat.mul_one, List.drop_zero]
       congr 1
       rw [List.take_append_of_le_length (by simp; omega), List.take_replicate]
       congr 1
       omega
     clear S; rintro h w ⟨rfl, S⟩
     simp only [List.set_cons_zero] at S
     rw [nl hm2.1] at S
     generalize df n (N - n) = k at S hm hm2
     have w : au .i64 ((n : Int) + (k : Int)) = ((n + k : Nat) : Int) := by rw [wrap64] <;> omega
     simp only [BS, LB, cls, Nat.reduceLT, Nat.reduceEqDiff, Nat.reduceAdd, Nat.reducePow, Nat.reduceDiv, Nat.reduceMod, Nat.reduceLeDiff, w]
     exact ih (n + k) _ _ (by omega) ⟨by omega, by omega, by rw [show N - (n + k) = N - n - k by omega]; exact S, by simp [aa, r7], by simp [aa]⟩
   · simp only [BS, LB, ag, Nat.reduceLT, Nat.reduceEqDiff, Tryz.FFf2111, r7, r8, aF, hlt]
     have e : n = N := by omega
     subst e
     have R := S.row (b := bb) m0
     rw [Nat.sub_self, List.replicate_zero, List.append_nil] at R
     exact ⟨S.gr, bb, rfl, n_bb, R⟩
 · exact ⟨Nat.le_refl _, h1, by simpa using S, by simp [aa], by simp [aa]⟩
end Go.Ab

end
section
namespace Go.Ab
open Go.Proofs
set_option maxRecDepth 10000
open Tryz in
def Tryz.FFf3204 := aj a1 <| aj s1 <| aj z1 <| aj n1 <| aj u2 <| aj a2 <| aj s2 <| aj z2 <| aj i2 <| aj u3 <| aj a3 <| aj s3 <| aj z3 <| aj i3 <| aj u4 <| aj a4 <| aj s4 <| aj z4 <| aj n4 <| aj u5 <| aj a5 <| aj s5 <| aj z5 <| aj i5 <| aj a31 <| aj s31 <| aj z31 <| aj i31 <| aj n31 <| aj p31 <| aj ff31 <| aj d31 <| aj u33 <| aj a33 <| aj s33 <| aj z33 <| aj q33 <| aj i33 <| aj n33 <| aj u43 <| aj a43 <| aj s43 <| aj z43 <| aj q43 <| aj n43 <| aj a56 <| aj s56 <| aj z56 <| aj i56 <| aj n56 <| aj p56 <| aj ff56 <| aj d56 <| aj u163 <| aj a163 <| aj s163 <| aj z163 <| aj q163 <| aj n163 <| aj a165 <| aj s165 <| aj z165 <| aj i165 <| aj n165 <| aj p165 <| aj ff165 <| aj d165 <| aj a173 <| aj s173 <| aj z173 <| aj n173 <| aj a290 <| aj s290 <| aj z290 <| n290
def j5 (A : List Arc) (f : Arc → Nat) (ids : List Nat) : List (List Value) := ids.map fun (id : Nat) => [.int .i64 id, .agg ⟨cP ⟨0, f (A.getD id default), (A.getD id default).w⟩⟩]
theorem arcs_ok' {h0 : Hp} (ok : h0.t.Sized h0.n) {p vl ve : Value} (f1 : Fl p) (f2 : Fl vl) (f3 : Fl ve) : Ret Tryz.abEnv 182 [p, vl, ve] h0 fun v h' => Gr h0 h' ∧ ∃ b1 b2 b3, v = .func (.func 204) #[] #[ptrTo b1, ptrTo b2, ptrTo b3] ∧ h0.n ≤ b1 ∧ h0.n ≤ b2 ∧ h0.n ≤ b3 ∧ h'.load b1 0 1 = some [vl] ∧ h'.load b2 0 1 = some [p] ∧ h'.load b3 0 1 = some [ve] := by
 have S := St.init (M := NoM) ok
 refine ah (n := 8) (rs := [.tmp 6]) rfl Tryz.e182 rfl rfl rfl (lbt rfl) ?_
 simp only [BS, Nat.reduceLT]
 refine ao (fE (by first | exact aM | exact aw | exact aX | exact aT | exact bo | exact aP | exact aU | exact aK | exact aV | exact bz | assumption)) S ?_; clear S; intro h b2 S n_b2
 simp only [BS, Nat.reduceLT, Nat.reduceEqDiff, if_false]
 refine ao (fE (by first | exact aM | exact aw | exact aX | exact aT | exact bo | exact aP | exact aU | exact aK | exact aV | exact bz | assumption)) S ?_; clear S; intro h b1 S n_b1
 simp only [BS, Nat.reduceLT, Nat.reduceEqDiff, if_false]
 refine ao (fE (by first | exact aM | exact aw | exact aX | exact aT | exact bo | exact aP | exact aU | exact aK | exact aV | exact bz | assumption)) S ?_; clear S; intro h b3 S n_b3
 simp only [BS, LB, ag, Nat.reduceLT, Nat.reduceEqDiff]
 exact ⟨S.gr, b1, b2, b3, rfl, n_b1, n_b2, n_b3, S.ld m1 rfl, S.ld m2 rfl, S.ld m0 rfl⟩
theorem arcs_it {hq h0 : Hp} (okq : hq.t.Sized hq.n) (ok0 : h0.t.Sized h0.n) (kq : ip hq h0) (nq : hq.n ≤ h0.n) {p vl : Value} {γ : Gra} {nb b1 b2 b3 : Nat} (hn : dg hq nb p γ) {ids : List Nat} (hl : aB h0 1 eC vl ids) (hids : ∀ id ∈ ids, id < γ.arcs.length) (hlen : ids.length < 1000) {g : FuncId} {f : Arc → Nat} (hk : KeyF Tryz.abEnv g f)
 (e1 : h0.load b1 0 1 = some [vl]) (e2 : h0.load b2 0 1 = some [p]) (e3 : h0.load b3 0 1 = some [.func (.func g) #[] #[]]) :
 IterN Tryz.abEnv 204 [] [ptrTo b1, ptrTo b2, ptrTo b3] h0 (fun c => c = b1 ∨ c = b2 ∨ c = b3 ∨ ax vl c ∨ c < hq.n) (j5 γ.arcs f ids) := by
 intro lb J Z hz Y h F s hj
 refine enter (n := 32) (rs := []) rfl Tryz.e204 rfl rfl rfl (lbt rfl) ?_
 have l1 := s.load ok0 e1 (.inl rfl)
 simp only [BS, LB, Nat.reduceLT, Tryz.FFf3204, l1, hl.lenq]
 refine bE (fun (i : Nat) ρ h => i ≤ ids.length ∧ ∃ F, ItS h0 (fun c => c = b1 ∨ c = b2 ∨ c = b3 ∨ ax vl c ∨ c < hq.n) h F ∧ J i h F ∧ ρ 0 = .func (.yield lb) #[] #[] ∧ ρ 1 = ptrTo b1 ∧ ρ 2 = ptrTo b2 ∧ ρ 3 = ptrTo b3 ∧ ρ 9 = vl ∧ ρ 10 = .int .i64 ids.length ∧ ρ 11 = .int .i64 i) (fun i => ids.length - i) ?_ 0 _ _ ?_
 · clear l1
   intro i ih ρ h ⟨hi, F, s, hj, r0, r1, r2, r3, r9, r10, r11⟩
   by_cases hlt : i < ids.length
   · obtain ⟨c, o, hidx, hld⟩ := (s.sl ok0 hl (fun b h => .inr (.inr (.inr (.inl h))))).ix (kd := .i64) e6 hlt
     have l2 := s.load ok0 e2 (.inr (.inl rfl))
     have l3 := s.load ok0 e3 (.inr (.inr (.inl rfl)))
     have hid := hids _ (List.getElem_mem hlt)
     have nt : dg h nb p γ := hn.keep okq (s.keep kq nq (fun c hc => .inr (.inr (.inr (.inr hc)))))
     have w : au .i64 ((i : Int) + 1) = ((i + 1 : Nat) : Int) := by rw [wrap64] <;> omega
     have S := St.init (M := NoM) s.ok
     simp only [BS, LB, Nat.reduceLT, Nat.reduceEqDiff, Tryz.FFf3204, r2, r9, r10, r11, aF, hlt, hidx, hld, eC, l2]
     refine step_ret (netArc_ok S.ok nt hid) ?_
     rintro v h2 ⟨g1, rfl⟩
     replace S := S.call g1; clear g1
     simp only [BS, LB, Nat.reduceLT, Nat.reduceEqDiff, Tryz.FFf3204]
     refine ao aJ S ?_; clear S; intro h b7 S n_b7
     simp only [BS, LB, Nat.reduceLT, Nat.reduceEqDiff, cP]
     first | refine ac (S.store (i := 0) rfl ?_ ?_ rfl rfl ?_ ono) ?_ | refine ac (S.store (i := 1) rfl ?_ ?_ rfl rfl ?_ ono) ?_ | refine ac (S.store (i := 2) rfl ?_ ?_ rfl rfl ?_ ono) ?_ | refine ac (S.store (i := 3) rfl ?_ ?_ rfl rfl ?_ ono) ?_ | refine ac (S.store (i := 4) rfl ?_ ?_ rfl rfl ?_ ono) ?_ | refine ac (S.store (i := 5) rfl ?_ ?_ rfl rfl ?_ ono) ?_ | refine ac (S.store (i := 6) rfl ?_ ?_ rfl rfl ?_ ono) ?_ | refine ac (S.store (i := 7) rfl ?_ ?_ rfl rfl ?_ ono) ?_
     · exact (by first | exact Tryz.s31 | exact Tryz.s56 | exact Tryz.s165)
     · exact (by intro x e; cases e)
     · exact lbt rfl
     clear S; rintro h ⟨S, mo⟩; clear mo; simp only [List.set_cons_zero, List.set_cons_succ, an, lay, List.take, List.drop, List.nil_append, List.cons_append, List.append_nil, List.length_cons, List.length_nil, Nat.reduceAdd, Nat.add_zero] at S
     simp only [BS, LB, Nat.reduceLT, Nat.reduceEqDiff]
     refine aI (aR rfl) (q := 0) (ps := [(4, 6)]) (by kernel_rfl) ?_
     simp only [BS, LB, cls, Nat.reduceLT, Nat.reduceEqDiff, Nat.reduceAdd, Nat.reducePow, Nat.reduceDiv, Nat.reduceMod, Nat.reduceLeDiff, Tryz.FFf3204, r0, r3, S.old l3 (fun h => h), S.lds (b := b7) (o := 0) (n := 3) (by repeat constructor) (lbt rfl)]
     have hlt7 := (S.row (b := b7) m0).lt S.ok
     refine eG (hk _ γ.arcs[ids[i]] S.ok) ?_
     intro h' g1
     have lv := aW g1 hlt7
     replace S := S.call g1; clear g1
     simp only [BS, LB, cls, Nat.reduceLT, Nat.reduceEqDiff, Nat.reduceAdd, Nat.reducePow, Nat.reduceDiv, Nat.reduceMod, Nat.reduceLeDiff, Tryz.FFf3204, S.ld (b := b7) (o := 2) (by repeat constructor) rfl]
     have gd : γ.arcs.getD ids[i] default = γ.arcs[ids[i]] := by simp [List.getD_eq_getElem?_getD, hid]
     have hx : (j5 γ.arcs f ids)[i]? = some [.int .i64 (ids[i] : Nat), .agg ⟨[.int .i64 0, .int .i64 (f γ.arcs[ids[i]] : Nat), .int .i64 (γ.arcs[ids[i]].w : Nat)]⟩] := by
      unfold j5
      rw [List.getElem?_map, List.getElem?_eq_getElem hlt]
      simp only [Option.map_some, gd]
      rfl
     refine dn_yield hz Y (s.gr S.gr) (Y.gr _ _ _ _ hj S.gr) (j := i) hx ?_ ?_
     · intro h' F' a s' _ _
       simp only [BS, LB, cls, Nat.reduceLT, Nat.reduceEqDiff, Nat.reduceAdd, Nat.reducePow, Nat.reduceDiv, Nat.reduceMod, Nat.reduceLeDiff, r11, w]
       refine ⟨by simp only [bL, bR, bC, bU, bF, ne_eq, not_false_eq_true, bW, cB, bJ, bG, cK, dk, bH, Nat.reduceLT, Nat.reduceEqDiff, reduceIte, Bool.and_true, r0, r1, r2, r3, ae, bn lv, aS lv], ?_⟩
       exact ih (i + 1) _ _ (by omega) ⟨by omega, F', s', a, by simp [aa, r0], by simp [aa, r1, ae], by simp [aa, r2, ae], by simp [aa, r3, ae], by simp [aa, r9], by simp [aa, r10], by simp [aa]⟩
     · intro h' a _
       simp only [BS, LB, cls, Nat.reduceLT, Nat.reduceEqDiff, Nat.reduceAdd, Nat.reducePow, Nat.reduceDiv, Nat.reduceMod, Nat.reduceLeDiff]
       refine ⟨by simp only [bL, bR, bC, bU, bF, ne_eq, not_false_eq_true, bW, cB, bJ, bG, cK, dk, bH, Nat.reduceLT, Nat.reduceEqDiff, reduceIte, Bool.and_true, r0, r1, r2, r3, ae, bn lv, aS lv], ?_⟩
       exact iN rfl ⟨rfl, .inr (.inl ⟨_, rfl, a⟩)⟩
   · simp only [BS, LB, Nat.reduceLT, r10, r11, aF, hlt]
     have : i = ids.length := by omega
     subst this
     exact d6 (dN ⟨rfl, _, rfl, rfl, .inl ⟨_, F, rfl, by simpa [j5] using hj⟩⟩)
 · exact ⟨by omega, F, s, hj, by simp [aa, cV], by simp [aa, cV, ae], by simp [aa, cV, ae], by simp [aa, cV, ae], by simp [aa], by simp [aa], by simp [aa]⟩
end Go.Ab

end
section
namespace Go.Ab
section
variable {M : Nat → Prop} {h0 h h' : Hp} {L L' : List (Nat × Ob)} {G G' : List GL} {Fh : List Nat}
theorem St.baseF (S : St M h0 h L G) (Fh : List Nat) : St (fun c => c ∈ keys L G ∨ c ∈ Fh) h h L G :=
 ⟨Mo.refl S.ok, fun p hp => ⟨.inr (.inl (fL hp)), (S.own p hp).2⟩, fun p hp => ⟨(S.gown p hp).1, fun b hb => .inr (.inl (fV hp hb))⟩, S.apart⟩
theorem St.rebaseF (S : St M h0 h L G) (hF : ∀ c ∈ Fh, h0.n ≤ c ∨ M c) (T : St (fun c => c ∈ keys L G ∨ c ∈ Fh) h h' L' G') : St M h0 h' L' G' := by
 have hk : ∀ b, h.n ≤ b ∨ (b ∈ keys L G ∨ b ∈ Fh) → h0.n ≤ b ∨ M b := fun b hb => hb.elim (fun hb => .inl (Nat.le_trans S.fr.n hb)) (fun hb => hb.elim S.key_own (hF b))
 exact ⟨S.fr.trans T.fr fun b hb => (hb.elim S.key_own (hF b)).symm, fun p hp => ⟨hk _ (T.own p hp).1, (T.own p hp).2⟩, fun p hp => ⟨(T.gown p hp).1, fun b hb => hk b ((T.gown p hp).2 b hb)⟩, T.apart⟩
theorem St.callF (S : St M h0 h L G) {i b : Nat} {o o' : Ob} (hi : L[i]? = some (b, o)) (f : Mo (fun c => c ∈ Fh ∨ c = b) h h') (hF : ∀ c ∈ Fh, (M c ∨ h0.n ≤ c) ∧ c ∉ keys L G) (ho : Has h' b o') : St M h0 h' (L.set i (b, o')) G := by
 have hb := S.own _ (List.mem_of_getElem? hi)
 have hkey : (keys L G)[i]? = some b := j9 hi
 refine ⟨S.fr.trans f (fun c hc => by rcases hc with hc | rfl; exact (hF c hc).1; exact hb.1.symm), fun p hp => ?_, fun p hp => ⟨(S.gown p hp).1.of_get fun c hc => ?_, (S.gown p hp).2⟩, ?_⟩
 · rcases iP hp with rfl | ⟨j, hj, hp⟩
   · exact ⟨hb.1, ho⟩
   · have h1 := S.own p (List.mem_of_getElem? hp)
     refine ⟨h1.1, h1.2.of_get (f.get _ (h1.2.lt S.ok) fun e => ?_)⟩
     rcases e with e | e
     · exact (hF _ e).2 (fL (List.mem_of_getElem? hp))
     · apply hj
       have h2 : (keys L G)[j]? = some b := by rw [j9 hp]; rw [e]
       exact kI S.apart h2 hkey
 · refine f.get c ((S.gown p hp).1.lt S.ok hc) fun e => ?_
   rcases e with e | e
   · exact (hF _ e).2 (fV hp hc)
   · subst e
     have h1 := S.apart
     unfold keys at h1
     rw [List.nodup_append] at h1
     exact h1.2.2 c (List.mem_map.2 ⟨_, List.mem_of_getElem? hi, rfl⟩) c (List.mem_filterMap.2 ⟨p, hp, hc⟩) rfl
 · have : keys (L.set i (b, o')) G = keys L G := by
    unfold keys
    congr 1
    rw [List.map_set]
    refine List.ext_getElem? fun j => ?_
    rw [List.getElem?_set]
    split
    · rename_i e; subst e
      have := (List.getElem?_eq_some_iff.1 hi).1
      rw [if_pos (by simpa using this), List.getElem?_map, hi]; rfl
    · rfl
   rw [this]; exact S.apart
theorem St.stepF (S : St M h0 h L G) (f : Mo (· ∈ Fh) h h') (hF : ∀ c ∈ Fh, (M c ∨ h0.n ≤ c) ∧ c ∉ keys L G) : St M h0 h' L G :=
 S.step f (fun c hc => (hF c hc).1) (fun c hc hm => (hF c hm).2 hc)
theorem St.permL (S : St M h0 h L G) (p : L'.Perm L) : St M h0 h L' G :=
 ⟨S.fr, fun x hx => S.own x (p.mem_iff.1 hx), S.gown, by
  have : (keys L' G).Perm (keys L G) := (p.map Prod.fst).append_right _
  exact this.nodup_iff.2 S.apart⟩
end
theorem St.mono {M M' : Nat → Prop} {h0 h : Hp} {L : List (Nat × Ob)} {G : List GL} (S : St M h0 h L G) (hm : ∀ b, M b → M' b) : St M' h0 h L G :=
 ⟨S.fr.mono hm, fun p hp => ⟨(S.own p hp).1.imp (fun h => h) (hm _), (S.own p hp).2⟩, fun p hp => ⟨(S.gown p hp).1, fun b hb => ((S.gown p hp).2 b hb).imp (fun h => h) (hm _)⟩, S.apart⟩
theorem Dj.exm {B : List Arc} {s N : Nat} {O : List Nat} {D : Nat → Nat} {K : Nat → Option Int} {ex ex' : Arc → Prop} (d : Dj B s N O D K ex) (h : ∀ a ∈ B, ex a → ex' a) : Dj B s N O D K ex' :=
 ⟨d.i1, d.i2, d.i2f, d.i3, fun a ha hs hx => d.i4 a ha hs (fun hh => hx (h a ha hh)), d.i5, d.nd, d.lt⟩
def noteSl : Value → Option Tch
 | .map (some r) => some (.blk r)
 | .slice (some a) _ _ => some (.blk a.block)
 | _ => none
theorem rL {ρ : Operand → Value} {b : Bool} {x y : Operand} {ts : Array TypeId} {h h' : Hp} : bZ ρ b (.call ⟨.builtin .append, #[x, y], ts⟩) h h' = noteSl (ρ x) := by
 simp only [bZ, da, gR, dG, touch, cond_false]
 cases ρ x <;> first | rfl | (rename_i x; cases x <;> rfl) | (rename_i x _ _; cases x <;> rfl)
theorem pair_x {x : Option Tch} : gf x none = true := by
 cases x with
 | none => rfl
 | some b => cases b <;> rfl
theorem entry_nl {i : Nat} : bN i [] = none := rfl
end Go.Ab

end
section
namespace Go.Ab
open Go.Proofs
set_option maxRecDepth 10000
open Tryz in
def Tryz.FFf4183 := aj a1 <| aj s1 <| aj z1 <| aj n1 <| aj u2 <| aj a2 <| aj s2 <| aj z2 <| aj i2 <| aj u3 <| aj a3 <| aj s3 <| aj z3 <| aj i3 <| aj u4 <| aj a4 <| aj s4 <| aj z4 <| aj n4 <| aj u5 <| aj a5 <| aj s5 <| aj z5 <| aj i5 <| aj u25 <| aj a25 <| aj s25 <| aj z25 <| aj q25 <| aj n25 <| aj u43 <| aj a43 <| aj s43 <| aj z43 <| aj q43 <| aj n43 <| aj u47 <| aj a47 <| aj s47 <| aj z47 <| aj i47 <| aj u178 <| aj a178 <| aj s178 <| aj z178 <| aj q178 <| aj i178 <| aj n178 <| aj u193 <| aj a193 <| aj s193 <| aj z193 <| aj n193 <| aj a197 <| aj s197 <| aj z197 <| aj i197 <| aj n197 <| aj p197 <| aj ff197 <| aj d197 <| aj a237 <| aj s237 <| aj z237 <| aj i237 <| aj n237 <| aj p237 <| aj ff237 <| aj d237 <| aj a239 <| aj s239 <| aj z239 <| aj i239 <| aj n239 <| aj p239 <| aj ff239 <| aj d239 <| aj u250 <| aj a250 <| aj s250 <| aj z250 <| aj q250 <| aj i250 <| aj n250 <| aj a253 <| aj s253 <| aj z253 <| aj i253 <| aj n253 <| aj p253 <| aj ff253 <| d253
theorem ints_set (l : List Int) (i : Nat) (x : Int) : (ints l).set i (.int .i64 x) = ints (l.set i x) := by
 have e4 : ∀ l : List Int, ints l = l.map fun x => Value.int .i64 x := fun l => by
  unfold ints; rw [List.flatMap_eq_foldl, List.map_eq_flatMap, List.flatMap_eq_foldl]; rfl
 rw [e4, e4, List.map_set]
theorem reach_ok {h0 : Hp} (ok : h0.t.Sized h0.n) {br ba bc c N v arc far : Nat} {p vD vO : Value} {F : List Nat} {K : Nat → Option Int} {O : List Nat} {es : List (Value × Value × Nat)} {f : Int → Option Value} {aL : List Int}
 (R : Row h0 br [p, vD, .slice (some ⟨ba, 0, none⟩) N N, vO, .map (some bc)] 1) (H : cD h0 F p N K) (hN : N ≤ 1000) (hc : h0.get bc = some (.map es c)) (MI : cQ es c f) (CF : ClF O f) (hA : Row h0 ba (ints aL) 1) (lA : aL.length = N) (hv : v < N)
 (d1 : ba ∉ F) (d2 : br ∉ F) (d3 : br ≠ ba) :
 Ret Tryz.abEnv 183 [ptrTo br, .int .i64 v, .int .i64 arc, .int .i64 far] h0 fun _ h' => Mo (fun c => c ∈ F ∨ c = ba) h0 h' ∧ ∃ F' aL', cD h' F' p N (fC O K v far) ∧ (∀ b ∈ F', b ∈ F ∨ h0.n ≤ b) ∧ Row h' ba (ints aL') 1 ∧ aL'.length = N ∧ ((fC O K v far = K ∧ aL' = aL) ∨ (v ∉ O ∧ fC O K v far = cC K v (some (far : Int)) ∧ aL' = aL.set v arc)) := by
 have S := St.init (M := NoM) ok
 have hA0 := hA.lt ok
 have l0 := R.load1 (o := 0) rfl
 have l4 := R.load1 (o := 4) rfl
 have l2 := R.load1 (o := 2) rfl
 have pp : ∃ b, p = ptrTo b := by obtain ⟨b, _, _, e, _⟩ := H.ex; exact ⟨b, e⟩
 obtain ⟨bp, rfl⟩ := pp
 refine ah (n := 59) (rs := []) rfl Tryz.e183 rfl rfl rfl (lbt rfl) ?_
 simp only [BS, LB, Nat.reduceLT, Nat.reduceEqDiff, Tryz.FFf4183, l0]
 refine ar (uh S.ok H) ?_
 intro h g; replace S := S.call g; clear g
 replace hc : h.get bc = some (.map es c) := S.gr.at hc
 have H1 := H.gr S.gr
 have lk := nP (x := (v : Int)) Tryz.u193 Tryz.u3 (z := .int .i64 0) (by kernel_rfl) hc MI
 rw [CF v] at lk
 replace l0 := S.old l0 (fun h => h)
 replace l4 := S.old l4 (fun h => h)
 replace l2 := S.old l2 (fun h => h)
 replace hA : Row h ba (ints aL) 1 := hA.gr S.gr
 have R1 := R.gr S.gr
 have gg := S.gr
 by_cases hO : v ∈ O
 · rw [if_pos hO, Option.getD_some] at lk
   simp only [BS, LB, Nat.reduceLT, Nat.reduceEqDiff, Int.reduceLT, Tryz.FFf4183, l4, lk]
   exact ⟨gg.fr, F, aL, by unfold fC; rw [if_pos hO]; exact H1, fun b hb => .inl hb, hA, lA, .inl ⟨by unfold fC; rw [if_pos hO], rfl⟩⟩
 · rw [if_neg hO, Option.getD_none] at lk
   have hba := hA.lt gg.ok
   cases hk : K v with
   | none =>
     have rk : fC O K v far = cC K v (some (far : Int)) := by unfold fC; rw [if_neg hO, hk]
     simp only [BS, LB, Nat.reduceLT, Nat.reduceEqDiff, Int.reduceLT, Tryz.FFf4183, l0, l4, lk, Option.getD_none, Option.isSome_none]
     refine step_ret (nX gg.ok H1 hv hN hk) ?_
     rintro r h2 ⟨f2, F', H2, hF'⟩
     have ha2 : Row h2 ba (ints aL) 1 := f2.has (o := .row _ 1) hA d1
     have r2 : Row h2 br [ptrTo bp, vD, .slice (some ⟨ba, 0, none⟩) N N, vO, .map (some bc)] 1 := f2.has (o := .row _ 1) R1 d2
     have l2' := r2.load1 (o := 2) rfl
     have S := St.init1 f2.ok (o := .row _ 1) ha2
     simp only [BS, LB, Nat.reduceLT, Nat.reduceEqDiff, Nat.reduceAdd, Tryz.FFf4183, l2', hv]
     refine ac (ab S (i := 0) rfl Tryz.s3 aM (by rw [cb, lA]; exact hv) ono) ?_
     clear S; rintro h3 ⟨S, mo⟩
     simp only [List.set_cons_zero] at S
     rw [ints_set] at S
     simp only [BS]
     refine ⟨(gg.fr.trans (f2.mono (fun c hc => .inl hc)) (fun c hc => .inl hc) : Mo (fun c => c ∈ F ∨ c = ba) h0 h2).trans mo (fun c hc => .inl (.inr hc)), F', aL.set v arc, by rw [rk]; exact H2.mo mo (fun b hb e => by subst e; rcases hF' b hb with h | h; exact d1 h; omega), fun b hb => (hF' b hb).imp (fun h => h) (fun h => Nat.le_trans gg.n h), S.row m0, by rw [List.length_set]; exact lA, .inr ⟨hO, rk, rfl⟩⟩
   | some k =>
     by_cases hle : k ≤ (far : Int)
     · have rk : fC O K v far = K := by unfold fC; rw [if_neg hO, hk]; simp only []; rw [if_pos hle]
       simp only [BS, LB, Nat.reduceLT, Nat.reduceEqDiff, Int.reduceLT, Tryz.FFf4183, l4, lk, hle, Option.getD_some]
       exact ⟨gg.fr, F, aL, by rw [rk]; exact H1, fun b hb => .inl hb, hA, lA, .inl ⟨rk, rfl⟩⟩
     · have rk : fC O K v far = cC K v (some (far : Int)) := by unfold fC; rw [if_neg hO, hk]; simp only []; rw [if_neg hle]
       simp only [BS, LB, Nat.reduceLT, Nat.reduceEqDiff, Int.reduceLT, Tryz.FFf4183, l0, l4, lk, hle, Option.getD_some]
       refine step_ret (sE gg.ok H1 hN hk (by omega)) ?_
       rintro r h2 ⟨f2, H2⟩
       have ha2 : Row h2 ba (ints aL) 1 := f2.has (o := .row _ 1) hA d1
       have r2 : Row h2 br [ptrTo bp, vD, .slice (some ⟨ba, 0, none⟩) N N, vO, .map (some bc)] 1 := f2.has (o := .row _ 1) R1 d2
       have l2' := r2.load1 (o := 2) rfl
       have S := St.init1 f2.ok (o := .row _ 1) ha2
       simp only [BS, LB, Nat.reduceLT, Nat.reduceEqDiff, Nat.reduceAdd, Tryz.FFf4183, l2', hv]
       refine ac (ab S (i := 0) rfl Tryz.s3 aM (by rw [cb, lA]; exact hv) ono) ?_
       clear S; rintro h3 ⟨S, mo⟩
       simp only [List.set_cons_zero] at S
       rw [ints_set] at S
       simp only [BS]
       refine ⟨(gg.fr.trans (f2.mono (fun c hc => .inl hc)) (fun c hc => .inl hc) : Mo (fun c => c ∈ F ∨ c = ba) h0 h2).trans mo (fun c hc => .inl (.inr hc)), F, aL.set v arc, by rw [rk]; exact H2.mo mo (fun b hb e => by subst e; exact d1 hb), fun b hb => .inl hb, S.row m0, by rw [List.length_set]; exact lA, .inr ⟨hO, rk, rfl⟩⟩
end Go.Ab

end
section
namespace Go.Ab
open Go.Proofs
set_option maxRecDepth 10000
open Tryz in
def Tryz.FFf5126 := aj a1 <| aj s1 <| aj z1 <| aj n1 <| aj u2 <| aj a2 <| aj s2 <| aj z2 <| aj i2 <| aj u3 <| aj a3 <| aj s3 <| aj z3 <| aj i3 <| aj u4 <| aj a4 <| aj s4 <| aj z4 <| aj n4 <| aj u5 <| aj a5 <| aj s5 <| aj z5 <| aj i5 <| aj u6 <| aj a6 <| aj s6 <| aj z6 <| aj i6 <| aj a7 <| aj s7 <| aj z7 <| aj i7 <| aj n7 <| aj p7 <| aj ff7 <| aj d7 <| aj a8 <| aj s8 <| aj z8 <| aj i8 <| aj n8 <| aj p8 <| aj ff8 <| aj d8 <| aj u9 <| aj a9 <| aj s9 <| aj z9 <| aj n9 <| aj u10 <| aj a10 <| aj s10 <| aj z10 <| aj n10 <| aj u11 <| aj a11 <| aj s11 <| aj z11 <| aj n11 <| aj u12 <| aj a12 <| aj s12 <| aj z12 <| aj i12 <| aj a13 <| aj s13 <| aj z13 <| aj i13 <| aj n13 <| aj p13 <| aj ff13 <| aj d13 <| aj a14 <| aj s14 <| aj z14 <| aj i14 <| aj n14 <| aj p14 <| aj ff14 <| aj d14 <| aj u15 <| aj a15 <| aj s15 <| aj z15 <| aj q15 <| aj i15 <| aj n15 <| aj u16 <| aj a16 <| aj s16 <| aj z16 <| aj q16 <| aj i16 <| aj n16 <| aj u17 <| aj a17 <| aj s17 <| aj z17 <| aj q17 <| aj i17 <| aj n17 <| aj u25 <| aj a25 <| aj s25 <| aj z25 <| aj q25 <| aj n25 <| aj a31 <| aj s31 <| aj z31 <| aj i31 <| aj n31 <| aj p31 <| aj ff31 <| aj d31 <| aj u33 <| aj a33 <| aj s33 <| aj z33 <| aj q33 <| aj i33 <| aj n33 <| aj u43 <| aj a43 <| aj s43 <| aj z43 <| aj q43 <| aj n43 <| aj u47 <| aj a47 <| aj s47 <| aj z47 <| aj i47 <| aj a56 <| aj s56 <| aj z56 <| aj i56 <| aj n56 <| aj p56 <| aj ff56 <| aj d56 <| aj a86 <| aj s86 <| aj z86 <| aj n86 <| aj a101 <| aj s101 <| aj z101 <| aj i101 <| aj n101 <| aj p101 <| aj ff101 <| aj d101 <| aj a102 <| aj s102 <| aj z102 <| aj i102 <| aj n102 <| aj p102 <| aj ff102 <| aj d102 <| aj u156 <| aj a156 <| aj s156 <| aj z156 <| aj q156 <| aj i156 <| aj n156 <| aj u163 <| aj a163 <| aj s163 <| aj z163 <| aj q163 <| aj n163 <| aj a165 <| aj s165 <| aj z165 <| aj i165 <| aj n165 <| aj p165 <| aj ff165 <| aj d165 <| aj a173 <| aj s173 <| aj z173 <| aj n173 <| aj u178 <| aj a178 <| aj s178 <| aj z178 <| aj q178 <| aj i178 <| aj n178 <| aj u193 <| aj a193 <| aj s193 <| aj z193 <| aj n193 <| aj a197 <| aj s197 <| aj z197 <| aj i197 <| aj n197 <| aj p197 <| aj ff197 <| aj d197 <| aj u231 <| aj a231 <| aj s231 <| aj z231 <| aj i231 <| aj a237 <| aj s237 <| aj z237 <| aj i237 <| aj n237 <| aj p237 <| aj ff237 <| aj d237 <| aj a239 <| aj s239 <| aj z239 <| aj i239 <| aj n239 <| aj p239 <| aj ff239 <| aj d239 <| aj u250 <| aj a250 <| aj s250 <| aj z250 <| aj q250 <| aj i250 <| aj n250 <| aj a253 <| aj s253 <| aj z253 <| aj i253 <| aj n253 <| aj p253 <| aj ff253 <| aj d253 <| aj a255 <| aj s255 <| aj z255 <| aj n255 <| aj u283 <| aj a283 <| aj s283 <| aj z283 <| aj i283 <| aj a300 <| aj s300 <| aj z300 <| aj i300 <| aj n300 <| aj p300 <| aj ff300 <| aj d300 <| aj u301 <| aj a301 <| aj s301 <| aj z301 <| aj n301 <| aj a303 <| aj s303 <| aj z303 <| aj i303 <| aj n303 <| aj u305 <| aj a305 <| aj s305 <| aj z305 <| aj i305 <| aj a306 <| aj s306 <| aj z306 <| aj n306 <| aj u307 <| aj a307 <| aj s307 <| aj z307 <| aj i307 <| aj u308 <| aj a308 <| aj s308 <| aj z308 <| aj i308 <| aj a310 <| aj s310 <| aj z310 <| aj i310 <| aj n310 <| aj p310 <| aj ff310 <| d310
def seen (A : List Arc) (fs ft : Arc → Nat) : List Arc := A.map fun a => ⟨fs a, ft a, a.w⟩
def NextF (E : Env) (g : FuncId) (γ : Gra) (pn : Value) (fs : Arc → Nat) : Prop := ∀ (h : Hp) (nb : Nat), h.t.Sized h.n → dg h nb pn γ → ∀ v, v < γ.nodes → Ret E g [pn, .int .i64 (v : Nat)] h fun r h' => Gr h h' ∧ aB h' 1 eC r (outs γ.arcs fs γ.arcs.length v) ∧ ∀ c, ax r c → h.n ≤ c
def dl (l : List Nat) : List Value := l.flatMap eC
theorem iH (l : List Nat) : dl l = l.map fun (x : Nat) => Value.int .i64 x := by
 unfold dl; rw [List.flatMap_eq_foldl, List.map_eq_flatMap, List.flatMap_eq_foldl]; rfl
theorem ints_map (l : List Int) : ints l = l.map fun x => Value.int .i64 x := by
 unfold ints; rw [List.flatMap_eq_foldl, List.map_eq_flatMap, List.flatMap_eq_foldl]; rfl
theorem kr (l : List Nat) : (dl l).length = l.length := by rw [iH, List.length_map]
theorem nats_app (l : List Nat) (x : Nat) : dl (l ++ [x]) = dl l ++ dl [x] := by rw [iH, iH, iH, List.map_append]
theorem seen_at {A : List Arc} {fs ft : Arc → Nat} {i : Nat} (hi : i < A.length) : (seen A fs ft).getD i default = ⟨fs (A.getD i default), ft (A.getD i default), (A.getD i default).w⟩ ∧ (seen A fs ft).getD i default ∈ seen A fs ft := by
 have e : (seen A fs ft).getD i default = ⟨fs (A.getD i default), ft (A.getD i default), (A.getD i default).w⟩ := by
  unfold seen; simp [List.getD_eq_getElem?_getD, hi]
 refine ⟨e, ?_⟩
 rw [List.getD_eq_getElem?_getD, List.getElem?_eq_getElem (by unfold seen; simpa using hi)]
 exact List.getElem_mem _
theorem seen_mem {A : List Arc} {fs ft : Arc → Nat} {a : Arc} (ha : a ∈ seen A fs ft) : ∃ i, i < A.length ∧ (seen A fs ft).getD i default = a := by
 obtain ⟨i, hi, e⟩ := List.mem_iff_getElem.1 ha
 exact ⟨i, by unfold seen at hi; simpa using hi, by simp [List.getD_eq_getElem?_getD, hi, e]⟩
def po (h' : Hp) (m : Nat) (r : Value) (B : List Arc) (s N : Nat) : Prop := ∃ vD vA vO D aL O, r = .agg ⟨[vD, vA, vO]⟩ ∧ aB h' 1 eC vD ((List.range N).map D) ∧ aB h' 1 (encI .i64) vA aL ∧ aB h' 1 eC vO O ∧ aL.length = N ∧ (∀ v, IsD B s v (D v)) ∧ (∀ c, ax vD c ∨ ax vA c ∨ ax vO c → m ≤ c) ∧ O.Nodup ∧ ∀ v ∈ O, v < N
theorem oe {h0 : Hp} (ok : h0.t.Sized h0.n) {F : List Nat} {p : Value} {N : Nat} {K : Nat → Option Int} (H : cD h0 F p N K) (hN : N ≤ 1000) : Ret Tryz.abEnv 115 [p] h0 fun r h' => ∃ (v : Nat) (k : Int) (b : Bool), r = .tuple #[.int .i64 (v : Nat), .int .i64 k, .bool b] ∧ Mo (· ∈ F) h0 h' ∧ cD h' F p N (if b = true then cC K v none else K) ∧ (b = true → K v = some k ∧ ∀ u k', K u = some k' → k ≤ k') ∧ (b = false → ∀ v, K v = none) := by
 refine lC (uL ok H hN) ?_
 rintro r h' (⟨rfl, h1, g⟩ | ⟨v, k, rfl, h1, h2, h3, h4⟩)
 · exact ⟨0, 0, false, rfl, g.fr, H.gr g, fun h => (by cases h), fun _ => h1⟩
 · exact ⟨v, k, true, rfl, h3, h4, fun _ => ⟨h1, fun u k' h => by have := h2 u k' h; omega⟩, fun h => (by cases h)⟩
def FloodI (h0 : Hp) (B : List Arc) (s N b9 br bc ba bd b8 bP bp : Nat) (gN gE : FuncId) (O : List Nat) (ρ : Nat → Value) (d : List Deferred) (h : Hp) : Prop :=
 ∃ (dbs : List Nat) (D : Nat → Nat) (K : Nat → Option Int) (F : List Nat) (es : List (Value × Value × Nat)) (c : Nat) (f : Int → Option Value) (aL : List Int) (vO : Value) (bk : Nat) (v : Nat) (key : Int) (b : Bool), d = dbs.map my ∧
   St NoM h0 h ([(bk, Ob.row [.int .i64 key] 1), (b9, .row [ptrTo br] 1), (br, .row [ptrTo bP, .slice (some ⟨bd, 0, none⟩) N N, .slice (some ⟨ba, 0, none⟩) N N, vO, .map (some bc)] 1), (bc, .map es c), (ba, .row (ints aL) 1), (bd, .row (dl ((List.range N).map D)) 1), (b8, .row [.slice none 0 0, .slice none 0 0, .slice none 0 0] 1)] ++ dr dbs) [(vO, 1, dl O)] ∧
   (∀ c' ∈ F, h0.n ≤ c' ∧ c' ∉ keys ([(bk, Ob.row [.int .i64 key] 1), (b9, .row [ptrTo br] 1), (br, .row [ptrTo bP, .slice (some ⟨bd, 0, none⟩) N N, .slice (some ⟨ba, 0, none⟩) N N, vO, .map (some bc)] 1), (bc, .map es c), (ba, .row (ints aL) 1), (bd, .row (dl ((List.range N).map D)) 1), (b8, .row [.slice none 0 0, .slice none 0 0, .slice none 0 0] 1)] ++ dr dbs) [(vO, 1, dl O)]) ∧
   aL.length = N ∧ cQ es c f ∧ ClF O f ∧ Dj B s N O D K (fun _ => False) ∧ cD h F (ptrTo bP) N (if b = true then cC K v none else K) ∧ (b = true → K v = some key ∧ ∀ u k', K u = some k' → key ≤ k') ∧ (b = false → ∀ v, K v = none) ∧
   ρ 0 = ptrTo bp ∧ ρ 2 = .func (.func gN) #[ptrTo bp] #[] ∧ ρ 3 = .func (.func gE) #[] #[] ∧ ρ 8 = ptrTo b8 ∧ ρ 9 = ptrTo b9 ∧ ρ 10 = .int .i64 v ∧ ρ 11 = ptrTo bk ∧ ρ 12 = .bool b
theorem sm {h0 : Hp} (ok : h0.t.Sized h0.n) {γ : Gra} (hγ : Good γ) {pn : Value} {nb : Nat} (hn : dg h0 nb pn γ) {s : Nat} (hs : s < γ.nodes) {gN gE : FuncId} {fs ft : Arc → Nat} (hN : NextF Tryz.abEnv gN γ pn fs) (hE : KeyF Tryz.abEnv gE ft) (hft : ∀ a ∈ γ.arcs, ft a < γ.nodes) :
 Ret Tryz.abEnv 126 [pn, .int .i64 s, .func (.func gN) #[pn] #[], .func (.func gE) #[] #[]] h0 fun r h' => Gr h0 h' ∧ po h' h0.n r (seen γ.arcs fs ft) s γ.nodes := by
 have n1 := hγ.n1
 have n2 := hγ.n2
 have S := St.init (M := NoM) ok
 have c1 : ¬ ((s : Int) < 0) := by omega
 have c2 : ¬ ((γ.nodes : Int) ≤ (s : Int)) := by omega
 obtain ⟨bp, epn⟩ : ∃ b, pn = ptrTo b := by obtain ⟨b, _, _, _, _, _, e, _⟩ := hn.ex; exact ⟨b, e⟩
 subst epn
 refine ah (n := 117) (rs := [.cell 8 197]) rfl Tryz.e126 rfl rfl rfl (lbt rfl) ?_
 simp only [BS, Tryz.FFf5126]
 refine ao aJ S ?_; clear S; intro h b8 S n_b8
 simp only [BS, LB, Nat.reduceLT, Nat.reduceEqDiff, Tryz.FFf5126, c1]
 refine ar (gG S.ok (hn.gr S.gr)) ?_; intro h g; replace S := S.call g; clear g
 simp only [BS, LB, Nat.reduceLT, Nat.reduceEqDiff, c2]
 refine ar (gG S.ok (hn.gr S.gr)) ?_; intro h g; replace S := S.call g; clear g
 simp only [BS, LB, Nat.reduceLT, Nat.reduceEqDiff]
 have nF := S.fr.n
 have kF := fun {c} (hc : c ∈ _) => S.key_lt (b := c) hc
 refine step_ret (uC S.ok) ?_; intro v h ⟨g, Fh, H, hFn⟩; replace S := S.call g; clear g
 rename Value => p
 have dF : ∀ c ∈ Fh, c ∉ keys [(b8, Ob.row [.slice none 0 0, .slice none 0 0, .slice none 0 0] 1)] [] := fun c hc hm => by have := kF hm; have := hFn c hc; omega
 have lF := H.lt S.ok
 have S0 := S
 have gF : ∀ c ∈ Fh, h0.n ≤ c ∨ NoM c := fun c hc => .inl (Nat.le_trans nF (hFn c hc))
 replace S := S.base
 simp only [BS, LB]
 refine ao (bT (by first | exact Tryz.u25 | exact Tryz.u43 | exact Tryz.u163) (by first | exact Tryz.e2E | exact Tryz.e3E | exact Tryz.e43E) (by decide) (by first | rfl | exact fillE )) S ?_; clear S; intro h bs1 S n_bs1; simp only [aY, bD, an, List.cons_append, List.nil_append, List.append_nil, List.set_cons_zero, List.set_cons_succ, Nat.reduceMul, Nat.reduceAdd, Nat.zero_mul, Nat.zero_add, Nat.mul_one, Nat.one_mul] at S
 simp only [BS, LB, Nat.reduceLT, Nat.reduceEqDiff]
 refine ar (gG S.ok (hn.gr (S0.rebase S).gr)) ?_; intro h g; replace S := S.call g; clear g
 simp only [BS, LB, Nat.reduceLT, Nat.reduceEqDiff]
 have kl := fun {c} (hc : c ∈ _) => S.key_lt (b := c) hc
 have kn := S.fr.n
 refine step_ret (rep64_ok S.ok (x := 72057594037927936) (.inr ⟨bs1, 0, none, 1, rfl, Nat.le_refl _, S.lds (b := bs1) (o := 0) (n := 1 * 1) m0 (lbt rfl)⟩) n1 (by omega)) ?_; intro v h ⟨g, bd, ed, nd, Rd⟩; replace S := S.call g; clear g
 subst ed
 replace S := S.drop1
 replace S := S.push (b := bd) (o := .row _ 1) (.inl (Nat.le_trans kn nd)) Rd (fun hm => by have := kl (List.mem_cons_of_mem _ hm); omega)
 simp only [BS, LB]
 refine ao (bT (by first | exact Tryz.u25 | exact Tryz.u43 | exact Tryz.u163) (by first | exact Tryz.e2E | exact Tryz.e3E | exact Tryz.e43E) (by decide) (by first | rfl | exact fillE )) S ?_; clear S; intro h bs2 S n_bs2; simp only [aY, bD, an, List.cons_append, List.nil_append, List.append_nil, List.set_cons_zero, List.set_cons_succ, Nat.reduceMul, Nat.reduceAdd, Nat.zero_mul, Nat.zero_add, Nat.mul_one, Nat.one_mul] at S
 simp only [BS, LB, Nat.reduceLT, Nat.reduceEqDiff]
 refine ar (gG S.ok (hn.gr (S0.rebase S).gr)) ?_; intro h g; replace S := S.call g; clear g
 simp only [BS, LB, Nat.reduceLT, Nat.reduceEqDiff]
 have kl2 := fun {c} (hc : c ∈ _) => S.key_lt (b := c) hc
 have kn2 := S.fr.n
 refine step_ret (repI_ok S.ok (x := -1) (.inr ⟨bs2, 0, none, 1, rfl, Nat.le_refl _, S.lds (b := bs2) (o := 0) (n := 1 * 1) m0 (lbt rfl)⟩) n1 (by omega)) ?_; intro v h ⟨g, ba, ea, na, Ra⟩; replace S := S.call g; clear g
 subst ea
 replace S := S.drop1
 replace S := S.push (b := ba) (o := .row _ 1) (.inl (Nat.le_trans kn2 na)) Ra (fun hm => by have := kl2 (List.mem_cons_of_mem _ hm); omega)
 have pp : ∃ b, p = ptrTo b := by obtain ⟨b, _, _, e, _⟩ := H.ex; exact ⟨b, e⟩
 obtain ⟨bP, rfl⟩ := pp
 simp only [BS, LB, Nat.reduceLT, Nat.reduceEqDiff, Nat.reduceAdd, Tryz.FFf5126]
 refine ao pY S ?_; clear S; intro h bc S n_bc
 simp only [BS, LB, Nat.reduceLT, Nat.reduceEqDiff, Nat.reduceAdd, Nat.reduceLeDiff, Tryz.FFf5126]
 refine ao (bS (by intro x e; cases e)) S ?_; clear S; intro h br S n_br; simp only [an] at S
 simp only [BS, Tryz.FFf5126]
 refine ao aJ S ?_; clear S; intro h b9 S n_b9
 simp only [BS, LB, Nat.reduceLT, Nat.reduceEqDiff]
 first | refine ac (ab S (i := 0) rfl ?_ ?_ ?_ ono) ?_ | refine ac (ab S (i := 1) rfl ?_ ?_ ?_ ono) ?_ | refine ac (ab S (i := 2) rfl ?_ ?_ ?_ ono) ?_ | refine ac (ab S (i := 3) rfl ?_ ?_ ?_ ono) ?_ | refine ac (ab S (i := 4) rfl ?_ ?_ ?_ ono) ?_ | refine ac (ab S (i := 5) rfl ?_ ?_ ?_ ono) ?_ | refine ac (ab S (i := 6) rfl ?_ ?_ ?_ ono) ?_ | refine ac (ab S (i := 7) rfl ?_ ?_ ?_ ono) ?_
 · exact (by simp only [Tryz.FFf5126])
 · exact (by first | exact aM | exact aw | exact aX | exact aT | exact bo | exact aP | exact aU | exact aK | exact aV | exact bz | assumption)
 · exact Nat.lt_of_succ_le (lbt rfl)
 clear S; rintro h ⟨S, mo⟩; clear mo; simp only [List.set_cons_zero, List.set_cons_succ, an, lay, List.take, List.drop, List.nil_append, List.cons_append, List.append_nil, List.length_cons, List.length_nil, Nat.reduceAdd, Nat.add_zero] at S
 simp only [BS, LB, Nat.reduceLT, Nat.reduceEqDiff, Tryz.FFf5126, S.ld (b := b9) (o := 0) (by repeat constructor) rfl, S.ld (b := br) (o := 0) (by repeat constructor) rfl]
 have d8 : ∀ c ∈ Fh, c ≠ b8 := fun c hc e => dF c hc (by rw [e]; simp [keys])
 have nd' := Nat.le_trans kn nd
 have na' := Nat.le_trans kn2 na
 clear kl kl2 kF kn nd kn2 na Ra Rd
 have HA := H.mo S.fr dF
 have dis : ∀ c ∈ Fh, c ≠ b9 ∧ c ≠ br ∧ c ≠ bc ∧ c ≠ ba ∧ c ≠ bd ∧ c ≠ b8 := fun c hc => by have := lF c hc; have := d8 c hc; omega
 replace S := S0.rebase S
 clear S0 dF lF d8 H n_bs1 n_bs2
 have T := S.baseF Fh
 have nh := S.fr.n
 have hF1 : ∀ L, (∀ c ∈ keys L [], c = b9 ∨ c = br ∨ c = bc ∨ c = ba ∨ c = bd ∨ c = b8) → ∀ c ∈ Fh, c ∉ keys L [] := fun L hL c hc hm => by
  have := dis c hc
  have := hL c hm
  omega
 have ps : Ret Tryz.abEnv 173 [ptrTo bP, .int .i64 (s : Nat), .int .i64 0] h _ := nX S.ok HA hs (by omega) rfl
 refine step_ret ps ?_
 rintro r h1 ⟨f1, F1, H1, hF'⟩
 replace S := S.rebaseF gF (T.stepF f1 (fun c hc => ⟨.inl (.inr hc), hF1 _ (fun c hc => by simpa [keys] using hc) c hc⟩))
 have hF1' : ∀ c ∈ F1, h0.n ≤ c ∧ c ∉ keys [(b9, Ob.row [ptrTo br] 1), (br, .row [ptrTo bP, .slice (some ⟨bd, 0, none⟩) γ.nodes γ.nodes, .slice (some ⟨ba, 0, none⟩) γ.nodes γ.nodes, .slice none 0 0, .map (some bc)] 1), (bc, .map [] 0), (ba, .row (List.replicate γ.nodes (.int .i64 (-1))) 1), (bd, .row (List.replicate γ.nodes (.int .i64 72057594037927936)) 1), (b8, .row [.slice none 0 0, .slice none 0 0, .slice none 0 0] 1)] [] := fun c hc => by
  rcases hF' c hc with h2 | h2
  · exact ⟨(gF c h2).elim (fun h => h) (fun h => h.elim), hF1 _ (fun c hc => by simpa [keys] using hc) c h2⟩
  · refine ⟨Nat.le_trans nh h2, fun hm => ?_⟩
    have := T.key_lt (b := c) (by simpa [keys] using hm)
    omega
 clear T hF1 dis hFn gF nF hF' HA f1
 replace S := S.nilG (k := 1)
 have dj := dj_init (B := seen γ.arcs fs ft) hs
 have lF1 := H1.lt S.ok
 have S1 := S
 replace S := S.baseF F1
 simp only [BS, LB, Nat.reduceLT, Nat.reduceEqDiff, Tryz.FFf5126, S.ld (b := b9) (o := 0) (by repeat constructor) rfl, S.ld (b := br) (o := 0) (by repeat constructor) rfl]
 refine step_ret (oe S.ok H1 (by omega)) ?_
 rintro r h2 ⟨v, k, b, rfl, f2, H2, hb1, hb2⟩
 replace S := S.stepF f2 (fun c hc => ⟨.inl (.inr hc), fun hm => (hF1' c hc).2 (by simpa [keys, dY] using hm)⟩)
 simp only [BS, LB, Nat.reduceLT, Nat.reduceEqDiff, Tryz.FFf5126]
 have S2 := S
 replace S := S.base
 refine ao aJ S ?_; clear S; intro h bk S n_bk
 simp only [BS, LB, Nat.reduceLT, Nat.reduceEqDiff]
 first | refine ac (ab S (i := 0) rfl ?_ ?_ ?_ ono) ?_ | refine ac (ab S (i := 1) rfl ?_ ?_ ?_ ono) ?_ | refine ac (ab S (i := 2) rfl ?_ ?_ ?_ ono) ?_ | refine ac (ab S (i := 3) rfl ?_ ?_ ?_ ono) ?_ | refine ac (ab S (i := 4) rfl ?_ ?_ ?_ ono) ?_ | refine ac (ab S (i := 5) rfl ?_ ?_ ?_ ono) ?_ | refine ac (ab S (i := 6) rfl ?_ ?_ ?_ ono) ?_ | refine ac (ab S (i := 7) rfl ?_ ?_ ?_ ono) ?_
 · exact (by simp only [Tryz.FFf5126])
 · exact (by first | exact aM | exact aw | exact aX | exact aT | exact bo | exact aP | exact aU | exact aK | exact aV | exact bz | assumption)
 · exact Nat.lt_of_succ_le (lbt rfl)
 clear S; rintro h ⟨S, mo⟩; clear mo; simp only [List.set_cons_zero, List.set_cons_succ, an, lay, List.take, List.drop, List.nil_append, List.cons_append, List.append_nil, List.length_cons, List.length_nil, Nat.reduceAdd, Nat.add_zero] at S
 simp only [BS, LB, Nat.reduceLT, Nat.reduceEqDiff]
 have H3 := H2.mo S.fr (fun c hc hm => (hF1' c hc).2 (by simpa [keys, dY] using hm))
 refine mK (FloodI h0 (seen γ.arcs fs ft) s γ.nodes b9 br bc ba bd b8 bP bp gN gE) (fun O => γ.nodes - O.length) ?_ [] _ _ _ ?_
 · clear S S1 S2 H3 hb1 hb2 H2 f2 H1 dj hF1' lF1 ps
   intro O ih ρ d hS ⟨dbs, D, K, F, es, c, f, aL, vO, bk, v, key, b, hd, S0, hF, lA, MI, CF, dj, H, hb1, hb2, r0, r2, r3, r8, r9, r10, r11, r12⟩
   simp only [List.cons_append, List.nil_append] at S0 hF
   have S := S0.base
   cases b with
   | false =>
     simp only [BS, LB, Nat.reduceLT, Nat.reduceEqDiff, Tryz.FFf5126, r8, r9, r12, S.ld (b := b9) (o := 0) (by repeat constructor) rfl, S.lds (b := br) (o := 1) (n := 3) (by repeat constructor) (lbt rfl)]
     have fvO : Fl vO := by
      rcases (S0.gown _ m0).1 with ⟨e, _⟩ | ⟨_, _, e, _⟩
      · rw [show vO = _ from e]; exact aw
      · rw [show vO = _ from e]; exact aw
     refine ac (S.store (i := 6) rfl Tryz.s197 (by intro x e; cases e) rfl (by simp only [an, List.drop_succ_cons, List.drop_zero, List.take_succ_cons, List.take_zero, List.all_cons, List.all_nil, fvO.2.1, Bool.and_true]; rfl) (lbt rfl) ono) ?_
     clear S; rintro h ⟨S, _⟩
     simp only [List.set_cons_zero, List.set_cons_succ, an, lay, List.take, List.drop, List.nil_append, List.cons_append, List.append_nil, List.length_cons, List.length_nil, Nat.reduceAdd, Nat.add_zero] at S
     simp only [BS]
     replace S := (S0.rebase S).permL (L' := dr dbs ++ [(bk, _), (b9, _), (br, _), (bc, _), (ba, _), (bd, _), (b8, _)]) List.perm_append_comm
     subst hd
     refine iL (ly dbs _ S fun h' S' => ?_)
     have lT := S'.lds (b := b8) (o := 0) (n := 3) m6 (lbt rfl)
     refine ⟨rfl, _, nw (by decide) (by simp only [bH, r8, ae, Nat.reduceEqDiff, reduceIte]; exact eK Tryz.a197 Tryz.s197 lT), S'.gr, ?_⟩
     refine ⟨_, _, _, D, aL, O, rfl, ?_, ?_, ?_, lA, dj.done (hb2 rfl) n2, ?_, dj.nd, dj.lt⟩
     · refine .inr ⟨bd, 0, none, γ.nodes, by rw [List.length_map, List.length_range], by rw [List.length_map, List.length_range]; exact Nat.le_refl _, ?_⟩
       have := (S'.row (b := bd) m5).load (o := 0) (n := ((List.range γ.nodes).map D).length * 1) (by rw [kr]; omega)
       rw [this, List.drop_zero, List.take_of_length_le (by rw [kr]; omega)]; rfl
     · refine .inr ⟨ba, 0, none, γ.nodes, by rw [lA], by rw [lA]; exact Nat.le_refl _, ?_⟩
       have := (S'.row (b := ba) m4).load (o := 0) (n := aL.length * 1) (by rw [cb]; omega)
       rw [this, List.drop_zero, List.take_of_length_le (by rw [cb]; omega)]; rfl
     · exact (S'.gown _ m0).1.sl rfl e6 (by decide)
     · rintro c (h | h | h)
       · have h : bd = c := h
         subst h; exact ((S'.own _ m5).1).elim (fun h => h) (fun h => h.elim)
       · have h : ba = c := h
         subst h; exact ((S'.own _ m4).1).elim (fun h => h) (fun h => h.elim)
       · exact ((S'.gblk m0 h).1).elim (fun h => h) (fun h => h.elim)
   | true =>
     simp only [if_true] at H
     obtain ⟨hk, hmin⟩ := hb1 rfl
     obtain ⟨_, n, rfl, _, _⟩ := dj.i3 v key hk
     obtain ⟨dj2, hvO, hvN, hnb⟩ := dj.pop hk hmin
     have lk := nP (x := (v : Int)) Tryz.u193 Tryz.u3 (z := .int .i64 0) (by kernel_rfl) (show hS.get bc = some (.map es c) from (S.own _ m3).2) MI
     rw [CF v, if_neg hvO, Option.getD_none] at lk
     have w1 : au .i64 1 = 1 := rfl
     simp only [BS, LB, Nat.reduceLT, Nat.reduceEqDiff, Int.reduceAdd, Tryz.FFf5126, r9, r10, r12, lk, w1, S.ld (b := b9) (o := 0) (by repeat constructor) rfl, S.ld (b := br) (o := 4) (by repeat constructor) rfl]
     refine ac (S.mputI (i := 3) rfl Tryz.u193 Tryz.u3 MI _) ?_
     clear S; rintro h ⟨_, es', c', MI', S⟩
     simp only [List.set_cons_zero, List.set_cons_succ] at S
     simp only [BS]
     refine aI (aR rfl) (q := 0) (ps := []) (by kernel_rfl) ?_
     simp only [BS, LB, cls, Nat.reduceLT, Nat.reduceEqDiff, Nat.reduceAdd, Nat.reducePow, Nat.reduceDiv, Nat.reduceMod, Nat.reduceLeDiff, Tryz.FFf5126, r9, r10, r11, hvN, S.ld (b := b9) (o := 0) (by repeat constructor) rfl, S.ld (b := br) (o := 1) (by repeat constructor) rfl, S.ld (b := bk) (o := 0) (by repeat constructor) rfl]
     refine aO (ab S (i := 5) rfl Tryz.s2 aM (by rw [kr, List.length_map, List.length_range]; exact hvN) ono) ?_
     clear S; rintro h ⟨S, _⟩
     simp only [List.set_cons_zero, List.set_cons_succ] at S
     have eD : (dl ((List.range γ.nodes).map D)).set v (.int .i64 (n : Nat)) = dl ((List.range γ.nodes).map fun u => if u = v then n else D u) := by
      rw [iH, iH, List.map_map, List.map_map]
      have := iJ (N := γ.nodes) (k := v) (F := (fun (x : Nat) => Value.int .i64 x) ∘ D) (F' := (fun (x : Nat) => Value.int .i64 x) ∘ fun u => if u = v then n else D u) (fun u _ hu => by simp [hu])
      rw [← this]; simp
     rw [eD] at S
     simp only [BS, LB, Nat.reduceAdd]
     refine aI (aR rfl) (q := 128) (ps := [(0, 8)]) (by kernel_rfl) ?_
     simp only [BS, LB, cls, Nat.reduceLT, Nat.reduceEqDiff, Nat.reduceAdd, Nat.reducePow, Nat.reduceDiv, Nat.reduceMod, Nat.reduceLeDiff, Tryz.FFf5126, r9, r10, S.ld (b := b9) (o := 0) (by repeat constructor) rfl, S.ld (b := br) (o := 3) (by repeat constructor) rfl]
     refine eF (bT (by first | exact Tryz.u25 | exact Tryz.u43 | exact Tryz.u163) (by first | exact Tryz.e2E | exact Tryz.e3E | exact Tryz.e43E) (by decide) (by first | rfl | exact fillE )) S ?_; clear S; intro h bs S n_bs e_bs; simp only [aY, bD, an, List.cons_append, List.nil_append, List.append_nil, List.set_cons_zero, List.set_cons_succ, Nat.reduceMul, Nat.reduceAdd, Nat.zero_mul, Nat.zero_add, Nat.mul_one, Nat.one_mul] at S
     simp only [BS, LB, cls, Nat.reduceLT, Nat.reduceEqDiff, Nat.reduceAdd, Nat.reducePow, Nat.reduceDiv, Nat.reduceMod, Nat.reduceLeDiff]
     have src : aH h 1 (.slice (some ⟨bs, 0, none⟩) 1 1) = some (1, dl [v]) := by simp only [aH]; rw [S.lds (b := bs) (o := 0) (n := 1 * 1) m0 (lbt rfl)]; rfl
     replace S := S.drop1
     refine dn_v (S.grow (j := 0) (m := 1) (new := dl [v]) rfl Tryz.u43 Tryz.e3E (by decide) Tryz.n43 src rfl (by decide) rfl (by rw [kr, kr]; have := dj.len; simp; omega)) ?_
     clear S src; rintro h vO' S
     simp only [List.set_cons_zero, ← nats_app] at S
     have fvO : Fl vO' := by
      rcases (S.gown _ m0).1 with ⟨e, _⟩ | ⟨_, _, e, _⟩
      · rw [show vO' = _ from e]; exact aw
      · rw [show vO' = _ from e]; exact aw
     simp only [BS, LB, cls, Nat.reduceLT, Nat.reduceEqDiff, Nat.reduceAdd, Nat.reducePow, Nat.reduceDiv, Nat.reduceMod, Nat.reduceLeDiff, Tryz.FFf5126]
     refine aO (ab S (i := 2) rfl Tryz.s43 fvO (Nat.lt_of_succ_le (lbt rfl)) ono) ?_
     clear S; rintro h ⟨S, _⟩
     simp only [List.set_cons_zero, List.set_cons_succ] at S
     simp only [BS, LB, Nat.reduceLT, Nat.reduceEqDiff, Nat.reduceAdd, r0, r2, r10]
     have pv : vO = .slice none 0 0 ∨ ∃ c n, vO = .slice (some ⟨c, 0, some 1⟩) n n ∧ c ≠ b9 := by
      rcases (S0.gown _ m0).1 with ⟨e, _⟩ | ⟨c, n, e, _⟩
      · exact .inl e
      · refine .inr ⟨c, n, e, fun h => ?_⟩
        exact (S0.gblk (c := c) m0 (by rw [show vO = _ from e]; rfl)).2 (by subst h; exact List.mem_map_of_mem (f := Prod.fst) m1)
     refine ⟨?_, ?_⟩
     · clear ih
       rcases pv with rfl | ⟨cO, nO, rfl, hne⟩
       · simp only [bL, bR, bC, bU, bF, ne_eq, not_false_eq_true, bW, cB, bJ, bG, cK, dk, bH, Nat.reduceLT, Nat.reduceEqDiff, reduceIte, Bool.and_true, r9, ae, rL, noteSl, pair_x, entry_nl, iY]
       · simp only [bL, bR, bC, bU, bF, ne_eq, not_false_eq_true, bW, cB, bJ, bG, cK, dk, bH, Nat.reduceLT, Nat.reduceEqDiff, reduceIte, Bool.and_true, r9, ae, rL, noteSl, iM hne, iM hne.symm]
     have kO : ∀ c ∈ keys ((bk, Ob.row [.int .i64 (n : Nat)] 1) :: (b9, .row [ptrTo br] 1) :: (br, .row [ptrTo bP, .slice (some ⟨bd, 0, none⟩) γ.nodes γ.nodes, .slice (some ⟨ba, 0, none⟩) γ.nodes γ.nodes, vO, .map (some bc)] 1) :: (bc, .map es c) :: (ba, .row (ints aL) 1) :: (bd, .row (dl ((List.range γ.nodes).map D)) 1) :: (b8, .row [.slice none 0 0, .slice none 0 0, .slice none 0 0] 1) :: dr dbs) [(vO, 1, dl O)], c < hS.n := fun c hc => S0.key_lt hc
     have kS := fun {c} hc => S.key_lt (b := c) hc
     have ge0 := (S0.rebase S).gr.n
     refine step_ret (hN _ nb S.ok (hn.gr (S0.rebase S).gr) v hvN) ?_
     rintro vl h ⟨g, sl, hcl⟩
     have kn := S.fr.n
     have gn := g.n
     replace S := S.call g; clear g
     simp only [BS, LB, Nat.reduceLT, Nat.reduceEqDiff, r3]
     have kn2 := S.fr.n
     have lvl := fun {c} hc => sl.lt S.ok (b := c) hc
     refine step_ret (arcs_ok' S.ok aX sl.fl aP) ?_; intro v h ⟨g, b1, b2, b3, e, q1, q2, q3, y1, y2, y3⟩; replace S := S.call g; replace sl := sl.gr g; clear g
     subst e
     simp only [BS]
     have hH := H.mo S.fr (fun c hc hm => (hF c hc).2 hm)
     have lFS := H.lt S0.ok
     refine kL S (g := 204) (a := #[]) (b := #[ptrTo b1, ptrTo b2, ptrTo b3]) (by simp [cK, aa, ae]) rfl rfl ?_
     intro h2 db lb S' hdb hlb g2
     have R1 := S0.rebase S'
     obtain ⟨X, hX, R1⟩ : ∃ X : fg, X = _ ∧ St NoM h0 h2 ((lb, .loop X) :: (db, .dfr) :: (bk, Ob.row [.int .i64 (n : Nat)] 1) :: (b9, .row [ptrTo br] 1) :: (br, .row [ptrTo bP, .slice (some ⟨bd, 0, none⟩) γ.nodes γ.nodes, .slice (some ⟨ba, 0, none⟩) γ.nodes γ.nodes, vO', .map (some bc)] 1) :: (bc, .map es' c') :: (ba, .row (ints aL) 1) :: (bd, .row (dl ((List.range γ.nodes).map fun u => if u = v then n else D u)) 1) :: (b8, .row [.slice none 0 0, .slice none 0 0, .slice none 0 0] 1) :: dr dbs) [(vO', 1, dl (O ++ [v]))] := ⟨_, rfl, R1⟩
     have CF' : ClF (O ++ [v]) (c9 f (v : Int) (some (.int .i64 1))) := fun u => by
      unfold c9
      by_cases e : u = v
      · subst e; simp
      · have e' : ¬ ((u : Int) = (v : Int)) := by omega
        rw [if_neg e', CF u]
        simp [e]
     have hJ : Yld Tryz.abEnv lb (fun k h' F' => ∃ K' Fh aL', St NoM h0 h' ((lb, .loop X) :: (db, .dfr) :: (bk, Ob.row [.int .i64 (n : Nat)] 1) :: (b9, .row [ptrTo br] 1) :: (br, .row [ptrTo bP, .slice (some ⟨bd, 0, none⟩) γ.nodes γ.nodes, .slice (some ⟨ba, 0, none⟩) γ.nodes γ.nodes, vO', .map (some bc)] 1) :: (bc, .map es' c') :: (ba, .row (ints aL') 1) :: (bd, .row (dl ((List.range γ.nodes).map fun u => if u = v then n else D u)) 1) :: (b8, .row [.slice none 0 0, .slice none 0 0, .slice none 0 0] 1) :: dr dbs) [(vO', 1, dl (O ++ [v]))] ∧
      cD h' Fh (ptrTo bP) γ.nodes K' ∧ (∀ c ∈ Fh, h0.n ≤ c ∧ c ∉ keys ((lb, .loop X) :: (db, .dfr) :: (bk, Ob.row [.int .i64 (n : Nat)] 1) :: (b9, .row [ptrTo br] 1) :: (br, .row [ptrTo bP, .slice (some ⟨bd, 0, none⟩) γ.nodes γ.nodes, .slice (some ⟨ba, 0, none⟩) γ.nodes γ.nodes, vO', .map (some bc)] 1) :: (bc, .map es' c') :: (ba, .row (ints aL') 1) :: (bd, .row (dl ((List.range γ.nodes).map fun u => if u = v then n else D u)) 1) :: (b8, .row [.slice none 0 0, .slice none 0 0, .slice none 0 0] 1) :: dr dbs) [(vO', 1, dl (O ++ [v]))]) ∧
      aL'.length = γ.nodes ∧ Dj (seen γ.arcs fs ft) s γ.nodes (O ++ [v]) (fun u => if u = v then n else D u) K' (fun a => ∃ id ∈ (outs γ.arcs fs γ.arcs.length v).drop k, (seen γ.arcs fs ft).getD id default = a) ∧
      F' = keys ((lb, .loop X) :: (db, .dfr) :: (bk, Ob.row [.int .i64 (n : Nat)] 1) :: (b9, .row [ptrTo br] 1) :: (br, .row [ptrTo bP, .slice (some ⟨bd, 0, none⟩) γ.nodes γ.nodes, .slice (some ⟨ba, 0, none⟩) γ.nodes γ.nodes, vO', .map (some bc)] 1) :: (bc, .map es' c') :: (ba, .row (ints aL') 1) :: (bd, .row (dl ((List.range γ.nodes).map fun u => if u = v then n else D u)) 1) :: (b8, .row [.slice none 0 0, .slice none 0 0, .slice none 0 0] 1) :: dr dbs) [(vO', 1, dl (O ++ [v]))] ++ Fh) (fun _ _ => False) (j5 γ.arcs ft (outs γ.arcs fs γ.arcs.length v)) := by
      clear ih S' R1 y1 y2 y3 hH S g2 H hF sl
      refine ⟨?_, ?_, fun _ _ h => h.elim, ?_⟩
      · rintro k h F' ⟨K', Fh, aL', S, H, hF, _, _, rfl⟩
        exact ⟨S.ok, fun b hb => (List.mem_append.1 hb).elim (fun hb => S.key_lt hb) (fun hb => H.lt S.ok b hb)⟩
      · rintro k h F' h' ⟨K', Fh, aL', S, H, q⟩ g
        exact ⟨K', Fh, aL', S.call g, H.gr g, q⟩
      · rintro k x h F' hx ⟨K', Fh, aL', S, H, hF, lA', dj', rfl⟩
        have hkl : k < (outs γ.arcs fs γ.arcs.length v).length := by
         have := (List.getElem?_eq_some_iff.1 hx).1
         simpa [j5] using this
        unfold j5 at hx
        rw [List.getElem?_map, List.getElem?_eq_getElem hkl] at hx
        cases hx
        have hm := js.1 (List.getElem_mem hkl)
        rw [List.drop_eq_getElem_cons hkl] at dj'
        generalize (outs γ.arcs fs γ.arcs.length v)[k] = id at hm dj'
        obtain ⟨hid, hfs⟩ := hm
        subst hX
        refine kT (S.get m0) (by rw [Tryz.e126]; rfl) rfl ?_
        have S1 := S
        replace S := S.base
        simp only [BS, LB, Nat.reduceLT, Nat.reduceEqDiff, Tryz.FFf5126]
        refine ao aJ S ?_; clear S; intro h b14 S n_b14
        simp only [BS, LB, Nat.reduceLT, Nat.reduceEqDiff, Int.cast_ofNat_Int, cP]
        first | refine ac (S.store (i := 0) rfl ?_ ?_ rfl rfl ?_ ono) ?_ | refine ac (S.store (i := 1) rfl ?_ ?_ rfl rfl ?_ ono) ?_ | refine ac (S.store (i := 2) rfl ?_ ?_ rfl rfl ?_ ono) ?_ | refine ac (S.store (i := 3) rfl ?_ ?_ rfl rfl ?_ ono) ?_ | refine ac (S.store (i := 4) rfl ?_ ?_ rfl rfl ?_ ono) ?_ | refine ac (S.store (i := 5) rfl ?_ ?_ rfl rfl ?_ ono) ?_ | refine ac (S.store (i := 6) rfl ?_ ?_ rfl rfl ?_ ono) ?_ | refine ac (S.store (i := 7) rfl ?_ ?_ rfl rfl ?_ ono) ?_
        · exact (by first | exact Tryz.s7 | exact Tryz.s8 | exact Tryz.s13 | exact Tryz.s14 | exact Tryz.s31 | exact Tryz.s56 | exact Tryz.s101 | exact Tryz.s102 | exact Tryz.s165 | exact Tryz.s197 | exact Tryz.s237 | exact Tryz.s239 | exact Tryz.s253 | exact Tryz.s300 | exact Tryz.s301 | exact Tryz.s303 | exact Tryz.s310)
        · exact (by intro x e; cases e)
        · exact lbt rfl
        clear S; rintro h ⟨S, mo⟩; clear mo; simp only [List.set_cons_zero, List.set_cons_succ, an, lay, List.take, List.drop, List.nil_append, List.cons_append, List.append_nil, List.length_cons, List.length_nil, Nat.reduceAdd, Nat.add_zero] at S
        simp only [BS]
        refine j6 S (i := 1) rfl rfl rfl rfl rfl ?_
        clear S; intro h S
        simp only [List.set_cons_zero, List.set_cons_succ] at S
        have amem : γ.arcs.getD id default ∈ γ.arcs := by rw [List.getD_eq_getElem?_getD, List.getElem?_eq_getElem hid]; exact List.getElem_mem hid
        have aok := hγ.arcs _ amem
        have hol : O.length * dX ≤ 12 * dX := Nat.mul_le_mul_right _ (Nat.le_trans dj.len n2)
        have wmax := WMAX_eq
        have wn : au .i64 ((n : Int) + ((γ.arcs.getD id default).w : Int)) = ((n + (γ.arcs.getD id default).w : Nat) : Int) := by rw [wrap64] <;> omega
        simp only [BS, LB, Nat.reduceLT, Nat.reduceEqDiff, Tryz.FFf5126, r9, r11, wn, S.ld (b := b9) (o := 0) (by repeat constructor) rfl, S.ld (b := b14) (o := 1) (by repeat constructor) rfl, S.ld (b := b14) (o := 2) (by repeat constructor) rfl, S.ld (b := bk) (o := 0) (by repeat constructor) rfl]
        have hH := H.mo S.fr (fun c hc hm => (hF c hc).2 hm)
        have lF2 := H.lt S1.ok
        have d3 : br ≠ ba := fun e => by
         have ap := S1.apart
         subst e
         simp only [keys, List.map_cons, List.cons_append, List.nodup_cons, List.mem_cons] at ap
         exact ap.2.2.2.2.1 (.inr (.inl trivial))
        replace S := S.mono (M' := fun c => c ∈ keys _ _ ∨ c ∈ Fh) (fun _ h => .inl h)
        refine step_ret (reach_ok S.ok (arc := id) (far := n + (γ.arcs.getD id default).w) (S.row m5) hH (by omega) (S.own _ m6).2 MI' CF' (S.row m7) lA' (hft _ amem) (fun h => (hF ba h).2 (by simp [keys])) (fun h => (hF br h).2 (by simp [keys])) d3) ?_
        rintro r h ⟨f1, F2, aL2, H2, hF2, hA2, lA2, rel⟩
        have kq := fun {c} hc => S.key_lt (b := c) hc
        have qn := S.fr.n
        have S2 := S.callF (i := 7) (Fh := Fh) rfl f1 (fun c hc => ⟨.inl (.inr hc), fun hm => by
         rcases List.mem_cons.1 hm with e | hm
         · have := lF2 c hc; omega
         · exact (hF c hc).2 hm⟩) (o' := .row _ 1) hA2
        simp only [List.set_cons_zero, List.set_cons_succ] at S2
        clear S
        simp only [BS]
        have S := S2.base
        refine hZ S (i := 1) rfl ?_
        clear S; intro h S
        simp only [List.set_cons_zero, List.set_cons_succ] at S
        have H3 := H2.mo S.fr (fun c hc hm => by
         rcases hF2 c hc with h1 | h1
         · rcases List.mem_cons.1 hm with e | hm
           · have := lF2 c h1; omega
           · exact (hF c h1).2 hm
         · have := kq hm; omega)
        have S3 := S2.rebase S
        refine .inl ⟨rfl, _, ⟨_, F2, aL2, S1.rebaseF (fun c hc => .inl (hF c hc).1) S3.drop1, H3, fun c hc => ?_, lA2, ?_, rfl⟩, S3.fr.mono (fun c hc => List.mem_append.2 hc), fun c hc => ?_⟩
        · rcases hF2 c hc with h1 | h1
          · exact hF c h1
          · refine ⟨Nat.le_trans S1.fr.n (Nat.le_trans qn h1), fun hm => ?_⟩
            have := kq (List.mem_cons_of_mem _ hm)
            omega
        · obtain ⟨e1, e2⟩ := seen_at (fs := fs) (ft := ft) hid
          have := dj'.relaxed (ex' := fun a => ∃ id' ∈ (outs γ.arcs fs γ.arcs.length v).drop (k + 1), (seen γ.arcs fs ft).getD id' default = a) e2 (by rw [e1]; show fs _ ∈ _; rw [hfs]; simp) (by rw [e1]; exact hft _ amem) (by rw [e1]; simp only [hfs, if_true]; rw [List.length_append, List.length_singleton, Nat.succ_mul]; omega) (fun b hb hx => by
           by_cases eb : b = (seen γ.arcs fs ft).getD id default
           · exact .inr eb
           · left
             rintro ⟨i, hi, rfl⟩
             rcases List.mem_cons.1 hi with e | hi
             · subst e; exact eb rfl
             · exact hx ⟨i, hi, rfl⟩)
          simp only [e1, hfs, if_true] at this
          exact this
        · rcases List.mem_append.1 hc with hc | hc
          · exact .inl (List.mem_append_left _ hc)
          · rcases hF2 c hc with h1 | h1
            · exact .inl (List.mem_append_right _ h1)
            · exact .inr (Nat.le_trans qn h1)
     have hkeep := (S0.rebase S).gr
     have hol2 := lJ γ.arcs fs γ.arcs.length v
     have hgm := hγ.many
     refine ja (iter_useN (arcs_it (hq := h0) ok S.ok hkeep.keep hkeep.n hn sl (fun id hid => (js.1 hid).1) (by omega) hE y1 y2 y3) (fun _ _ h => h) hJ (h := h2) (F := keys ((lb, .loop X) :: (db, .dfr) :: (bk, Ob.row [.int .i64 (n : Nat)] 1) :: (b9, .row [ptrTo br] 1) :: (br, .row [ptrTo bP, .slice (some ⟨bd, 0, none⟩) γ.nodes γ.nodes, .slice (some ⟨ba, 0, none⟩) γ.nodes γ.nodes, vO', .map (some bc)] 1) :: (bc, .map es' c') :: (ba, .row (ints aL) 1) :: (bd, .row (dl ((List.range γ.nodes).map fun u => if u = v then n else D u)) 1) :: (b8, .row [.slice none 0 0, .slice none 0 0, .slice none 0 0] 1) :: dr dbs) [(vO', 1, dl (O ++ [v]))] ++ F) g2.fr (fun b hb hlt => ?_)
      ⟨cC K v none, F, aL, R1, hH.gr g2, fun c hc => ⟨(hF c hc).1, fun hm => ?_⟩, lA, dj2.exm (fun a ha hs => ?_), rfl⟩) fun o rc h' y => mS y ?_
     · rcases List.mem_append.1 hb with hb' | hb'
       · have k2 := (R1.key_own hb').elim (fun h => h) (fun h => h.elim)
         rcases List.mem_cons.1 hb' with e | hb'
         · simp only [] at e; omega
         · rcases List.mem_cons.1 hb' with e | hb'
           · simp only [] at e; omega
           · have k1 := kS hb'
             rintro (h | h | h | h | h)
             · omega
             · omega
             · omega
             · have := hcl b h; omega
             · omega
       · have k1 := lFS b hb'
         have k2 := (hF b hb').1
         rintro (h | h | h | h | h)
         · omega
         · omega
         · omega
         · have := hcl b h; omega
         · omega
     · have k1 := lFS c hc
       have knh := S.fr.n
       rcases List.mem_cons.1 hm with e | hm
       · simp only [] at e; omega
       · rcases List.mem_cons.1 hm with e | hm
         · simp only [] at e; omega
         · rcases S.key_own hm with h1 | h1
           · omega
           · exact (hF c hc).2 h1
     · obtain ⟨i, hi, e⟩ := seen_mem ha
       refine ⟨i, ?_, e⟩
       rw [List.drop_zero]
       refine js.2 ⟨hi, ?_⟩
       have := (seen_at (fs := fs) (ft := ft) hi).1
       rw [e] at this
       rw [this] at hs
       exact hs
     · rintro Fx ⟨K', Fh', aL', T, H', hF', lA', dj', rfl⟩
       clear hJ R1 y1 y2 y3 hH S' S
       rw [show (j5 γ.arcs ft (outs γ.arcs fs γ.arcs.length v)).length = (outs γ.arcs fs γ.arcs.length v).length by simp [j5], List.drop_length] at dj'
       replace dj' := dj'.exm (ex' := fun _ => False) (fun a _ h => by obtain ⟨i, hi, _⟩ := h; cases hi)
       subst hX
       refine ⟨_, T.get m0, Nat.zero_ne_one, ?_⟩
       have hF2 : ∀ c ∈ Fh', c ≠ lb := fun c hc e => (hF' c hc).2 (by rw [e]; exact m0)
       have H2 := H'.mo ((Mo.refl (M := (· = lb)) T.ok).put (.inr rfl) .dead) hF2
       replace T := T.dead
       replace hF' := fun c hc => And.intro (hF' c hc).1 (fun hm => (hF' c hc).2 (List.mem_cons_of_mem _ hm))
       have S := T.base
       show Run _ _ _ _ _ _ _ _
       simp only [BS, Nat.reduceLT, Nat.reduceEqDiff, if_false, Tryz.FFf5126, r11, S.ld (b := bk) (o := 0) (by repeat constructor) rfl]
       refine ao aJ S ?_; clear S; intro h bk2 S n_bk2
       simp only [BS, LB, Nat.reduceLT, Nat.reduceEqDiff, r11]
       first | refine ac (ab S (i := 0) rfl ?_ ?_ ?_ ono) ?_ | refine ac (ab S (i := 1) rfl ?_ ?_ ?_ ono) ?_ | refine ac (ab S (i := 2) rfl ?_ ?_ ?_ ono) ?_ | refine ac (ab S (i := 3) rfl ?_ ?_ ?_ ono) ?_ | refine ac (ab S (i := 4) rfl ?_ ?_ ?_ ono) ?_ | refine ac (ab S (i := 5) rfl ?_ ?_ ?_ ono) ?_ | refine ac (ab S (i := 6) rfl ?_ ?_ ?_ ono) ?_ | refine ac (ab S (i := 7) rfl ?_ ?_ ?_ ono) ?_
       · exact (by simp only [Tryz.FFf5126])
       · exact (by first | exact aM | exact aw | exact aX | exact aT | exact bo | exact aP | exact aU | exact aK | exact aV | exact bz | assumption)
       · exact Nat.lt_of_succ_le (lbt rfl)
       clear S; rintro h ⟨S, mo⟩; clear mo; simp only [List.set_cons_zero, List.set_cons_succ, an, lay, List.take, List.drop, List.nil_append, List.cons_append, List.append_nil, List.length_cons, List.length_nil, Nat.reduceAdd, Nat.add_zero] at S
       simp only [BS, LB, Nat.reduceLT, Nat.reduceEqDiff, Tryz.FFf5126, r9, S.ld (b := b9) (o := 0) (by repeat constructor) rfl, S.ld (b := br) (o := 0) (by repeat constructor) rfl]
       have H3 := H2.mo S.fr (fun c hc hm => (hF' c hc).2 hm)
       have lF3 := H2.lt T.ok
       have hF3 : ∀ c ∈ Fh', h0.n ≤ c ∧ c ∉ keys ([(bk2, Ob.row [.int .i64 (n : Nat)] 1), (b9, .row [ptrTo br] 1), (br, .row [ptrTo bP, .slice (some ⟨bd, 0, none⟩) γ.nodes γ.nodes, .slice (some ⟨ba, 0, none⟩) γ.nodes γ.nodes, vO', .map (some bc)] 1), (bc, .map es' c'), (ba, .row (ints aL') 1), (bd, .row (dl ((List.range γ.nodes).map fun u => if u = v then n else D u)) 1), (b8, .row [.slice none 0 0, .slice none 0 0, .slice none 0 0] 1)] ++ dr (db :: dbs)) [(vO', 1, dl (O ++ [v]))] := fun c hc => by
        refine ⟨(hF' c hc).1, fun hm => ?_⟩
        have h1 := (hF' c hc).2
        have h2 := lF3 c hc
        simp [keys, dr] at hm
        rcases hm with h | h | h | h | h | h | h | h | h | h
        · omega
        all_goals exact h1 (by simp [keys, dr, h])
       replace S := (T.rebase S).sub (L' := (bk2, Ob.row [.int .i64 (n : Nat)] 1) :: (db, .dfr) :: (b9, .row [ptrTo br] 1) :: (br, .row [ptrTo bP, .slice (some ⟨bd, 0, none⟩) γ.nodes γ.nodes, .slice (some ⟨ba, 0, none⟩) γ.nodes γ.nodes, vO', .map (some bc)] 1) :: (bc, .map es' c') :: (ba, .row (ints aL') 1) :: (bd, .row (dl ((List.range γ.nodes).map fun u => if u = v then n else D u)) 1) :: (b8, .row [.slice none 0 0, .slice none 0 0, .slice none 0 0] 1) :: dr dbs) (G' := [(vO', 1, dl (O ++ [v]))]) (.cons_cons _ (.cons_cons _ (List.sublist_cons_self _ _))) (List.Sublist.refl _)
       replace S := S.permL (L' := [(bk2, Ob.row [.int .i64 (n : Nat)] 1), (b9, .row [ptrTo br] 1), (br, .row [ptrTo bP, .slice (some ⟨bd, 0, none⟩) γ.nodes γ.nodes, .slice (some ⟨ba, 0, none⟩) γ.nodes γ.nodes, vO', .map (some bc)] 1), (bc, .map es' c'), (ba, .row (ints aL') 1), (bd, .row (dl ((List.range γ.nodes).map fun u => if u = v then n else D u)) 1), (b8, .row [.slice none 0 0, .slice none 0 0, .slice none 0 0] 1)] ++ dr (db :: dbs)) (.cons _ (by
        show (List.append [_, _, _, _, _, _] ((db, Ob.dfr) :: dr dbs)).Perm _
        exact List.perm_middle))
       clear T H' H2 hF'
       have T := S.baseF Fh'
       refine step_ret (oe S.ok H3 (by omega)) ?_
       rintro rr h3 ⟨v3, k3, b3', rfl, f3, H4, hb1', hb2'⟩
       replace S := S.rebaseF (fun c hc => .inl (hF3 c hc).1) (T.stepF f3 (fun c hc => ⟨.inl (.inr hc), (hF3 c hc).2⟩))
       simp only [BS, LB, Nat.reduceLT, Nat.reduceEqDiff, r11]
       clear T
       have T := S
       replace S := S.base
       simp only [List.cons_append, List.nil_append] at S
       first | refine ac (ab S (i := 0) rfl ?_ ?_ ?_ ono) ?_ | refine ac (ab S (i := 1) rfl ?_ ?_ ?_ ono) ?_ | refine ac (ab S (i := 2) rfl ?_ ?_ ?_ ono) ?_ | refine ac (ab S (i := 3) rfl ?_ ?_ ?_ ono) ?_ | refine ac (ab S (i := 4) rfl ?_ ?_ ?_ ono) ?_ | refine ac (ab S (i := 5) rfl ?_ ?_ ?_ ono) ?_ | refine ac (ab S (i := 6) rfl ?_ ?_ ?_ ono) ?_ | refine ac (ab S (i := 7) rfl ?_ ?_ ?_ ono) ?_
       · exact (by simp only [Tryz.FFf5126])
       · exact (by first | exact aM | exact aw | exact aX | exact aT | exact bo | exact aP | exact aU | exact aK | exact aV | exact bz | assumption)
       · exact Nat.lt_of_succ_le (lbt rfl)
       clear S; rintro h ⟨S, mo⟩; clear mo; simp only [List.set_cons_zero, List.set_cons_succ, an, lay, List.take, List.drop, List.nil_append, List.cons_append, List.append_nil, List.length_cons, List.length_nil, Nat.reduceAdd, Nat.add_zero] at S
       simp only [BS, LB, Nat.reduceLT, Nat.reduceEqDiff]
       have H5 := H4.mo S.fr (fun c hc hm => (hF3 c hc).2 hm)
       replace S := T.rebase S
       subst hd
       have hlO : (O ++ [v]).length = O.length + 1 := by simp
       have hlO2 := dj'.len
       refine ih (O ++ [v]) _ _ _ (by omega) ⟨db :: dbs, _, K', Fh', es', c', _, aL', vO', bk2, v3, k3, b3', rfl, S, hF3, lA', MI', CF', dj', H5, hb1', hb2', ?_⟩
       refine ⟨by simp [aa, r0, ae], by simp [aa, r2, ae], by simp [aa, r3, ae], by simp [aa, r8, ae], by simp [aa, r9, ae], by simp [aa], by simp [aa, ae], by simp [aa]⟩
 · have e1 : dl ((List.range γ.nodes).map fun _ => FAR) = List.replicate γ.nodes (.int .i64 72057594037927936) := by
    rw [iH, List.map_const', List.length_range, List.map_replicate]; rfl
   have e2 : ints (List.replicate γ.nodes (-1)) = List.replicate γ.nodes (.int .i64 (-1)) := by
    rw [ints_map, List.map_replicate]
   have S3 := S1.rebaseF (fun c hc => .inl (hF1' c hc).1) (S2.rebase S)
   have nn := S2.fr.n
   refine ⟨[], fun _ => FAR, cC (fun _ => none) s (some 0), F1, [], 0, fun _ => none, List.replicate γ.nodes (-1), .slice none 0 0, bk, v, k, b, rfl, ?_, ?_, by simp, oq, fun u => by simp, dj, H3, hb1, hb2, ?_⟩
   · rw [e1, e2]; exact S3
   · rw [e1, e2]
     intro c hc
     refine ⟨(hF1' c hc).1, fun hm => ?_⟩
     have h1 := (hF1' c hc).2
     have h2 := lF1 c hc
     simp [keys, dY, dr] at hm h1
     omega
   · refine ⟨by simp [aa, ae, bg, cv], by simp [aa, ae, bg, cv], by simp [aa, ae, bg, cv], by simp [aa, ae, bg, cv], by simp [aa, ae, bg, cv], by simp [aa, ae, bg, cv], by simp [aa, ae, bg, cv], by simp [aa, ae, bg, cv]⟩
end Go.Ab

end
section
namespace Go.Ab
open Go.Proofs
set_option maxRecDepth 10000
open Tryz in
def Tryz.FFf6130 := aj a1 <| aj s1 <| aj z1 <| aj n1 <| aj u2 <| aj a2 <| aj s2 <| aj z2 <| aj i2 <| aj u3 <| aj a3 <| aj s3 <| aj z3 <| aj i3 <| aj a56 <| aj s56 <| aj z56 <| aj i56 <| aj n56 <| aj p56 <| aj ff56 <| d56
open Tryz in
def Tryz.FFf6128 := aj a1 <| aj s1 <| aj z1 <| aj n1 <| aj u2 <| aj a2 <| aj s2 <| aj z2 <| aj i2 <| aj u3 <| aj a3 <| aj s3 <| aj z3 <| aj i3 <| aj a56 <| aj s56 <| aj z56 <| aj i56 <| aj n56 <| aj p56 <| aj ff56 <| d56
open Tryz in
def Tryz.FFf667 := aj a1 <| aj s1 <| aj z1 <| aj n1 <| aj u2 <| aj a2 <| aj s2 <| aj z2 <| aj i2 <| aj u3 <| aj a3 <| aj s3 <| aj z3 <| aj i3 <| aj u25 <| aj a25 <| aj s25 <| aj z25 <| aj q25 <| aj n25 <| aj a31 <| aj s31 <| aj z31 <| aj i31 <| aj n31 <| aj p31 <| aj ff31 <| aj d31 <| aj u33 <| aj a33 <| aj s33 <| aj z33 <| aj q33 <| aj i33 <| aj n33 <| aj u43 <| aj a43 <| aj s43 <| aj z43 <| aj q43 <| aj n43 <| aj a86 <| aj s86 <| aj z86 <| aj n86 <| aj u163 <| aj a163 <| aj s163 <| aj z163 <| aj q163 <| aj n163 <| aj a165 <| aj s165 <| aj z165 <| aj i165 <| aj n165 <| aj p165 <| aj ff165 <| aj d165 <| aj a173 <| aj s173 <| aj z173 <| aj n173 <| aj a197 <| aj s197 <| aj z197 <| aj i197 <| aj n197 <| aj p197 <| aj ff197 <| d197
open Tryz in
def Tryz.FFf666 := aj a1 <| aj s1 <| aj z1 <| aj n1 <| aj u2 <| aj a2 <| aj s2 <| aj z2 <| aj i2 <| aj u3 <| aj a3 <| aj s3 <| aj z3 <| aj i3 <| aj u25 <| aj a25 <| aj s25 <| aj z25 <| aj q25 <| aj n25 <| aj a31 <| aj s31 <| aj z31 <| aj i31 <| aj n31 <| aj p31 <| aj ff31 <| aj d31 <| aj u33 <| aj a33 <| aj s33 <| aj z33 <| aj q33 <| aj i33 <| aj n33 <| aj u43 <| aj a43 <| aj s43 <| aj z43 <| aj q43 <| aj n43 <| aj a86 <| aj s86 <| aj z86 <| aj n86 <| aj u163 <| aj a163 <| aj s163 <| aj z163 <| aj q163 <| aj n163 <| aj a165 <| aj s165 <| aj z165 <| aj i165 <| aj n165 <| aj p165 <| aj ff165 <| aj d165 <| aj a173 <| aj s173 <| aj z173 <| aj n173 <| aj a197 <| aj s197 <| aj z197 <| aj i197 <| aj n197 <| aj p197 <| aj ff197 <| d197
theorem fromKey : KeyF Tryz.abEnv 130 Arc.t := by
 intro h0 a ok
 have S := St.init (M := NoM) ok
 refine ah (n := 5) (rs := [.tmp 2]) rfl Tryz.e130 rfl rfl rfl (lbt rfl) ?_
 simp only [BS, Nat.reduceLT, cP]
 refine ao (bS (by intro x e; cases e)) S ?_; clear S; intro h b S n_b; simp only [an] at S
 simp only [BS, LB, ag, Nat.reduceLT, Nat.reduceEqDiff, Tryz.FFf6130, S.ld (b := b) (o := 1) (by repeat constructor) rfl]
 exact S.gr
theorem toKey : KeyF Tryz.abEnv 128 Arc.s := by
 intro h0 a ok
 have S := St.init (M := NoM) ok
 refine ah (n := 5) (rs := [.tmp 2]) rfl Tryz.e128 rfl rfl rfl (lbt rfl) ?_
 simp only [BS, Nat.reduceLT, cP]
 refine ao (bS (by intro x e; cases e)) S ?_; clear S; intro h b S n_b; simp only [an] at S
 simp only [BS, LB, ag, Nat.reduceLT, Nat.reduceEqDiff, Tryz.FFf6128, S.ld (b := b) (o := 0) (by repeat constructor) rfl]
 exact S.gr
theorem fromNext {γ : Gra} (hγ : Good γ) {pn : Value} : NextF Tryz.abEnv 129 γ pn Arc.s := fun h nb ok hn v hv => netOut_ok ok hn (by have := hγ.many; omega) hv
theorem toNext {γ : Gra} (hγ : Good γ) {pn : Value} : NextF Tryz.abEnv 127 γ pn Arc.t := fun h nb ok hn v hv => netIn_ok ok hn (by have := hγ.many; omega) hv
theorem rR {h0 : Hp} (ok : h0.t.Sized h0.n) {γ : Gra} (hγ : Good γ) {pn : Value} {nb : Nat} (hn : dg h0 nb pn γ) {s : Nat} (hs : s < γ.nodes) :
 Ret Tryz.abEnv 67 [pn, .int .i64 s] h0 fun r h' => Gr h0 h' ∧ po h' h0.n r (seen γ.arcs Arc.s Arc.t) s γ.nodes := by
 have S := St.init (M := NoM) ok
 refine ah (n := 10) (rs := [.cell 4 197]) rfl Tryz.e67 rfl rfl rfl (lbt rfl) ?_
 simp only [BS, Tryz.FFf667]
 refine ao aJ S ?_; clear S; intro h b4 S n_b4
 simp only [BS, LB, Nat.reduceLT, Nat.reduceEqDiff]
 have k0 := S.fr.n
 have lt4 := (S.row (b := b4) m0).lt S.ok
 refine step_ret (sm S.ok hγ (hn.gr S.gr) hs (fromNext hγ) fromKey (fun a ha => (hγ.arcs a ha).2.1)) ?_; intro v h ⟨g, T⟩; replace S := S.call g; clear g
 obtain ⟨vD, vA, vO, D, aL, O, rfl, s1, s2, s3, t4, t5, t6, t7, t8⟩ := T
 have f1 := s1.fl
 have f2 := s2.fl
 have f3 := s3.fl
 have q1 : ∀ c, ax vD c ∨ ax vA c ∨ ax vO c → c ≠ b4 := fun c hc e => by have := t6 c hc; omega
 simp only [BS, LB, Nat.reduceLT, Nat.reduceEqDiff]
 refine ac (S.store (i := 0) rfl Tryz.s197 (by intro x e; cases e) rfl (by simp only [an, List.all_cons, List.all_nil, f1.2.1, f2.2.1, f3.2.1, Bool.and_true]) (lbt rfl) ono) ?_
 clear S; rintro h ⟨S, mo⟩
 simp only [List.set_cons_zero, List.set_cons_succ, an, lay, List.take, List.drop, List.nil_append, List.cons_append, List.append_nil, List.length_cons, List.length_nil, Nat.reduceAdd, Nat.add_zero] at S
 simp only [BS, ag]
 refine (kg (by decide) (by simp only [bH, ae, Nat.reduceEqDiff, reduceIte]; exact eK Tryz.a197 Tryz.s197 (S.lds (b := b4) (o := 0) (n := 3) m0 (lbt rfl)))).2 (j7.2 ?_)
 exact ⟨S.gr, vD, vA, vO, D, aL, O, rfl, s1.mo mo (fun c hc => q1 c (.inl hc)), s2.mo mo (fun c hc => q1 c (.inr (.inl hc))), s3.mo mo (fun c hc => q1 c (.inr (.inr hc))), t4, t5, fun c hc => Nat.le_trans k0 (t6 c hc), t7, t8⟩
theorem uw {h0 : Hp} (ok : h0.t.Sized h0.n) {γ : Gra} (hγ : Good γ) {pn : Value} {nb : Nat} (hn : dg h0 nb pn γ) {s : Nat} (hs : s < γ.nodes) :
 Ret Tryz.abEnv 66 [pn, .int .i64 s] h0 fun r h' => Gr h0 h' ∧ po h' h0.n r (seen γ.arcs Arc.t Arc.s) s γ.nodes := by
 have S := St.init (M := NoM) ok
 refine ah (n := 10) (rs := [.cell 4 197]) rfl Tryz.e66 rfl rfl rfl (lbt rfl) ?_
 simp only [BS, Tryz.FFf666]
 refine ao aJ S ?_; clear S; intro h b4 S n_b4
 simp only [BS, LB, Nat.reduceLT, Nat.reduceEqDiff]
 have k0 := S.fr.n
 have lt4 := (S.row (b := b4) m0).lt S.ok
 refine step_ret (sm S.ok hγ (hn.gr S.gr) hs (toNext hγ) toKey (fun a ha => (hγ.arcs a ha).1)) ?_; intro v h ⟨g, T⟩; replace S := S.call g; clear g
 obtain ⟨vD, vA, vO, D, aL, O, rfl, s1, s2, s3, t4, t5, t6, t7, t8⟩ := T
 have f1 := s1.fl
 have f2 := s2.fl
 have f3 := s3.fl
 have q1 : ∀ c, ax vD c ∨ ax vA c ∨ ax vO c → c ≠ b4 := fun c hc e => by have := t6 c hc; omega
 simp only [BS, LB, Nat.reduceLT, Nat.reduceEqDiff]
 refine ac (S.store (i := 0) rfl Tryz.s197 (by intro x e; cases e) rfl (by simp only [an, List.all_cons, List.all_nil, f1.2.1, f2.2.1, f3.2.1, Bool.and_true]) (lbt rfl) ono) ?_
 clear S; rintro h ⟨S, mo⟩
 simp only [List.set_cons_zero, List.set_cons_succ, an, lay, List.take, List.drop, List.nil_append, List.cons_append, List.append_nil, List.length_cons, List.length_nil, Nat.reduceAdd, Nat.add_zero] at S
 simp only [BS, ag]
 refine (kg (by decide) (by simp only [bH, ae, Nat.reduceEqDiff, reduceIte]; exact eK Tryz.a197 Tryz.s197 (S.lds (b := b4) (o := 0) (n := 3) m0 (lbt rfl)))).2 (j7.2 ?_)
 exact ⟨S.gr, vD, vA, vO, D, aL, O, rfl, s1.mo mo (fun c hc => q1 c (.inl hc)), s2.mo mo (fun c hc => q1 c (.inr (.inl hc))), s3.mo mo (fun c hc => q1 c (.inr (.inr hc))), t4, t5, fun c hc => Nat.le_trans k0 (t6 c hc), t7, t8⟩
end Go.Ab

end
section
namespace Go.Ab
theorem Wk.trans {B : List Arc} {a b c x y : Nat} (h : Wk B a b x) (k : Wk B b c y) : Wk B a c (x + y) := by
 induction k with
 | nil => exact h
 | @snoc w e he _ ih => exact Wk.snoc' ih he rfl rfl (by omega)
theorem Wk.back {B C : List Arc} (hBC : ∀ a ∈ B, ∃ b ∈ C, b.s = a.t ∧ b.t = a.s ∧ b.w = a.w) {m v w x y : Nat} (h : Wk B v w x) (k : Wk C m w y) : Wk C m v (x + y) := by
 induction h generalizing y with
 | nil => rw [Nat.zero_add]; exact k
 | @snoc z e he _ ih =>
   obtain ⟨b, hb, e1, e2, e3⟩ := hBC e he
   have := ih (Wk.snoc' k hb e1 e2 rfl)
   rw [e3] at this
   rw [show z + e.w + y = z + (y + e.w) by omega]; exact this
theorem IsD.wk {B : List Arc} {s v x w : Nat} (h : IsD B s v x) (k : Wk B s v w) : x < FAR ∧ x ≤ w ∧ Wk B s v x := by
 rcases h with ⟨a, b, c⟩ | ⟨a, b⟩
 · exact ⟨a, c w k, b⟩
 · exact absurd k (b w)
theorem IsD.far {B : List Arc} {s v x : Nat} (h : IsD B s v x) (hx : x < FAR) : Wk B s v x := by
 rcases h with ⟨a, b, c⟩ | ⟨a, b⟩
 · exact b
 · omega
end Go.Ab

end
section
namespace Go.Ab
structure Ev where
 kind : Nat
 id : Nat
 lab : Nat
def encE (e : Ev) : List Value := [.int .i64 e.kind, .int .i64 0, .int .i64 e.id, .int .i64 e.lab]
structure SS where
 K : Nat → Option Int
 L : Nat → Nat
 P : Nat → List Nat
 O : List Nat
 ev : List Ev
structure Fd where
 dist : Nat
 arcs : List Nat
 ev : List Ev
def Pops (K : Nat → Option Int) (v : Nat) (k : Int) : Prop := K v = some k ∧ ∀ u k', K u = some k' → k < k' ∨ (k = k' ∧ v ≤ u)
theorem Pops.uniq {K : Nat → Option Int} {v u : Nat} {k k' : Int} (h : Pops K v k) (g : Pops K u k') : v = u ∧ k = k' := by
 have a := h.2 _ _ g.1
 have b := g.2 _ _ h.1
 omega
def updP (P : Nat → List Nat) (v : Nat) (l : List Nat) : Nat → List Nat := fun u => if u = v then l else P u
def lu (pi : Nat → Int) (σ : SS) (v lab : Nat) (p : List Nat) : SS :=
 if v ∈ σ.O ∨ (FAR : Int) ≤ pi v ∨ ((σ.K v).isSome = true ∧ σ.L v ≤ lab) then σ else ⟨cC σ.K v (some (lab + pi v)), ik σ.L v lab, updP σ.P v p, σ.O, σ.ev⟩
def fq (σ : SS) (v : Nat) : SS := ⟨cC σ.K v none, σ.L, σ.P, σ.O ++ [v], σ.ev ++ [⟨0, v, σ.L v⟩]⟩
def evS (σ : SS) (e : Ev) : SS := ⟨σ.K, σ.L, σ.P, σ.O, σ.ev ++ [e]⟩
def scan1 (A : List Arc) (al : Nat → Bool) (pi : Nat → Int) (v : Nat) (σ : SS) (a : Nat) : SS :=
 if al a = true then lu pi (evS σ ⟨1, a, 0⟩) (A.getD a default).t (σ.L v + (A.getD a default).w) (a :: σ.P v) else σ
def scanS (A : List Arc) (al : Nat → Bool) (pi : Nat → Int) (v : Nat) (σ : SS) : SS := (outs A Arc.s A.length v).foldl (scan1 A al pi v) σ
inductive Ends (A : List Arc) (al : Nat → Bool) (pi : Nat → Int) (to : Nat) : SS → Fd → Prop where
 | none {σ : SS} : (∀ v, σ.K v = none) → Ends A al pi to σ ⟨FAR, [], σ.ev⟩
 | hit {σ : SS} {k : Int} : Pops σ.K to k → Ends A al pi to σ ⟨σ.L to, (σ.P to).reverse, (fq σ to).ev⟩
 | step {σ : SS} {v : Nat} {k : Int} {r : Fd} : Pops σ.K v k → v ≠ to → Ends A al pi to (scanS A al pi v (fq σ v)) r → Ends A al pi to σ r
theorem Ends.uniq {A : List Arc} {al : Nat → Bool} {pi : Nat → Int} {to : Nat} {σ : SS} {r q : Fd} (h : Ends A al pi to σ r) (g : Ends A al pi to σ q) : r = q := by
 induction h with
 | none hn =>
   cases g with
   | none _ => rfl
   | hit hp => have := hp.1; rw [hn] at this; cases this
   | step hp _ _ => have := hp.1; rw [hn] at this; cases this
 | hit hp =>
   cases g with
   | none hn => have := hp.1; rw [hn] at this; cases this
   | hit _ => rfl
   | step hq hne _ => exact absurd (hq.uniq hp).1 hne
 | step hp hne _ ih =>
   cases g with
   | none hn => have := hp.1; rw [hn] at this; cases this
   | hit hq => exact absurd (hp.uniq hq).1 hne
   | step hq _ hg =>
     obtain ⟨rfl, _⟩ := hp.uniq hq
     exact ih hg
section
variable {A : List Arc} {N s : Nat} {al : Nat → Bool} {pi : Nat → Int} {σ : SS}
structure Sv (A : List Arc) (N s : Nat) (al : Nat → Bool) (pi : Nat → Int) (σ : SS) : Prop where
 nd : σ.O.Nodup
 lt : ∀ v ∈ σ.O, v < N
 op : ∀ v k, σ.K v = some k → v < N ∧ v ∉ σ.O ∧ pi v < (FAR : Int) ∧ k = σ.L v + pi v
 bd : ∀ v, σ.L v ≤ σ.O.length * dX ∧ (σ.P v).length ≤ σ.O.length
 pc : ∀ v ∈ σ.O, pi v < (FAR : Int)
 path : ∀ v, (v ∈ σ.O ∨ σ.K v ≠ none) → (v = s ∧ σ.P v = [] ∧ σ.L v = 0) ∨ ∃ a, a < A.length ∧ al a = true ∧ (A.getD a default).t = v ∧ (A.getD a default).s ∈ σ.O ∧ σ.P v = a :: σ.P (A.getD a default).s ∧ σ.L v = σ.L (A.getD a default).s + (A.getD a default).w
theorem Sv.len (h : Sv A N s al pi σ) : σ.O.length ≤ N := l7 N σ.O h.nd h.lt
theorem Sv.evS (h : Sv A N s al pi σ) (e : Ev) : Sv A N s al pi (evS σ e) := ⟨h.nd, h.lt, h.op, h.bd, h.pc, h.path⟩
structure jd (σ τ : SS) : Prop where
 O : τ.O = σ.O
 L : ∀ u ∈ σ.O, τ.L u = σ.L u
 P : ∀ u ∈ σ.O, τ.P u = σ.P u
theorem jd.refl : jd σ σ := ⟨rfl, fun _ _ => rfl, fun _ _ => rfl⟩
theorem jd.trans {τ υ : SS} (h : jd σ τ) (g : jd τ υ) : jd σ υ :=
 ⟨g.O.trans h.O, fun u hu => (g.L u (by rw [h.O]; exact hu)).trans (h.L u hu), fun u hu => (g.P u (by rw [h.O]; exact hu)).trans (h.P u hu)⟩
theorem Sv.reach (h : Sv A N s al pi σ) {a lab v : Nat} {p : List Nat} (ha : a < A.length) (hal : al a = true) (ht : (A.getD a default).t = v) (hN : v < N) (hs : (A.getD a default).s ∈ σ.O) (hl : lab = σ.L (A.getD a default).s + (A.getD a default).w) (hp : p = a :: σ.P (A.getD a default).s)
 (b1 : lab ≤ σ.O.length * dX) (b2 : p.length ≤ σ.O.length) : Sv A N s al pi (lu pi σ v lab p) ∧ jd σ (lu pi σ v lab p) := by
 unfold lu
 split
 · exact ⟨h, .refl⟩
 · rename_i hc
   simp only [not_or] at hc
   obtain ⟨c1, c2, c3⟩ := hc
   have q : ∀ u ∈ σ.O, u ≠ v := fun u hu e => c1 (by subst e; exact hu)
   refine ⟨⟨h.nd, h.lt, fun u k hk => ?_, fun u => ⟨?_, ?_⟩, h.pc, fun u hu => ?_⟩, ⟨rfl, fun u hu => by simp [ik, q u hu], fun u hu => by simp [updP, q u hu]⟩⟩
   · simp only [cC, ik] at hk ⊢
     split at hk
     · rename_i e; subst e; cases hk
       exact ⟨hN, c1, by omega, by simp⟩
     · rename_i e
       rw [if_neg e]; exact h.op u k hk
   · simp only [ik]; split
     · exact b1
     · exact (h.bd u).1
   · simp only [updP]; split
     · exact b2
     · exact (h.bd u).2
   · have e1 : ik σ.L v lab (A.getD a default).s = σ.L (A.getD a default).s := if_neg (q _ hs)
     have e2 : updP σ.P v p (A.getD a default).s = σ.P (A.getD a default).s := if_neg (q _ hs)
     by_cases e : u = v
     · subst e
       refine .inr ⟨a, ha, hal, ht, hs, ?_, ?_⟩
       · show updP σ.P u p u = a :: updP σ.P u p (A.getD a default).s
         rw [e2, ← hp]; exact if_pos rfl
       · show ik σ.L u lab u = ik σ.L u lab (A.getD a default).s + (A.getD a default).w
         rw [e1, ← hl]; exact if_pos rfl
     · have hu' : u ∈ σ.O ∨ σ.K u ≠ none := by simpa [cC, e] using hu
       rcases h.path u hu' with ⟨k1, k2, k3⟩ | ⟨b, k1, k2, k3, k4, k5, k6⟩
       · exact .inl ⟨k1, by simp [updP, e, k2], by simp [ik, e, k3]⟩
       · refine .inr ⟨b, k1, k2, k3, k4, ?_, ?_⟩
         · simp only [updP, if_neg e, if_neg (q _ k4)]; exact k5
         · simp only [ik, if_neg e, if_neg (q _ k4)]; exact k6
theorem Sv.close (h : Sv A N s al pi σ) {v : Nat} {k : Int} (hk : σ.K v = some k) : Sv A N s al pi (fq σ v) := by
 obtain ⟨o1, o2, o3, o4⟩ := h.op v k hk
 have hl : (σ.O ++ [v]).length * dX = σ.O.length * dX + dX := by rw [List.length_append, List.length_singleton, Nat.succ_mul]
 refine ⟨?_, fun u hu => ?_, fun u k' hu => ?_, fun u => ⟨?_, ?_⟩, fun u hu => ?_, fun u hu => ?_⟩
 · show (σ.O ++ [v]).Nodup
   rw [List.nodup_append]
   exact ⟨h.nd, by simp, fun a ha b hb e => o2 (by simp at hb; subst hb; subst e; exact ha)⟩
 · rcases List.mem_append.1 hu with hu | hu
   · exact h.lt u hu
   · simp at hu; subst hu; exact o1
 · simp only [fq, cC] at hu ⊢
   split at hu
   · cases hu
   · rename_i e
     obtain ⟨a, b, c, d⟩ := h.op u k' hu
     exact ⟨a, by simp [b, e], c, d⟩
 · show σ.L u ≤ (σ.O ++ [v]).length * dX
   rw [hl]; have := (h.bd u).1; omega
 · show (σ.P u).length ≤ (σ.O ++ [v]).length
   have := (h.bd u).2; simp; omega
 · rcases List.mem_append.1 hu with hu | hu
   · exact h.pc u hu
   · simp at hu; subst hu; exact o3
 · have hu' : u ∈ σ.O ∨ σ.K u ≠ none := by
    by_cases e : u = v
    · subst e; exact .inr (by rw [hk]; nofun)
    · simpa [fq, cC, e] using hu
   rcases h.path u hu' with hq | ⟨b, k1, k2, k3, k4, k5, k6⟩
   · exact .inl hq
   · exact .inr ⟨b, k1, k2, k3, List.mem_append_left _ k4, k5, k6⟩
def Room (σ : SS) (v : Nat) : Prop := v ∈ σ.O ∧ σ.L v + dX ≤ σ.O.length * dX ∧ (σ.P v).length + 1 ≤ σ.O.length
theorem Room.keeps {τ : SS} {v : Nat} (r : Room σ v) (k : jd σ τ) : Room τ v := by
 obtain ⟨a, b, c⟩ := r
 exact ⟨by rw [k.O]; exact a, by rw [k.O, k.L v a]; exact b, by rw [k.O, k.P v a]; exact c⟩
theorem Sv.room (h : Sv A N s al pi σ) (v : Nat) : Room (fq σ v) v := by
 have := h.bd v
 refine ⟨List.mem_append_right _ (by simp), ?_, ?_⟩
 · show σ.L v + dX ≤ (σ.O ++ [v]).length * dX
   rw [List.length_append, List.length_singleton, Nat.succ_mul]; omega
 · show (σ.P v).length + 1 ≤ (σ.O ++ [v]).length
   simp; omega
theorem Sv.scan1 (h : Sv A N s al pi σ) (hA : ∀ a ∈ A, a.t < N ∧ a.w ≤ dX) {v a : Nat} (r : Room σ v) (ha : a < A.length) (hv : (A.getD a default).s = v) : Sv A N s al pi (scan1 A al pi v σ a) ∧ jd σ (scan1 A al pi v σ a) := by
 unfold Ab.scan1
 split
 · rename_i hal
   obtain ⟨r1, r2, r3⟩ := r
   have ok := hA (A.getD a default) (by rw [List.getD_eq_getElem?_getD, List.getElem?_eq_getElem ha]; exact List.getElem_mem ha)
   subst hv
   obtain ⟨h1, h2⟩ := (h.evS ⟨1, a, 0⟩).reach (p := a :: σ.P (A.getD a default).s) (lab := σ.L (A.getD a default).s + (A.getD a default).w) ha hal rfl ok.1 r1 rfl rfl (by show _ ≤ σ.O.length * dX; omega) (by show (σ.P _).length + 1 ≤ σ.O.length; exact r3)
   exact ⟨h1, ⟨h2.O, h2.L, h2.P⟩⟩
 · exact ⟨h, .refl⟩
theorem Sv.scanL (hA : ∀ a ∈ A, a.t < N ∧ a.w ≤ dX) {v : Nat} : ∀ (l : List Nat) {σ : SS}, Sv A N s al pi σ → Room σ v → (∀ a ∈ l, a < A.length ∧ (A.getD a default).s = v) → Sv A N s al pi (l.foldl (Ab.scan1 A al pi v) σ) ∧ jd σ (l.foldl (Ab.scan1 A al pi v) σ)
 | [], _, h, _, _ => ⟨h, .refl⟩
 | a :: l, σ, h, r, hl => by
   obtain ⟨h1, h2⟩ := h.scan1 hA r (hl a (by simp)).1 (hl a (by simp)).2
   obtain ⟨h3, h4⟩ := Sv.scanL hA l h1 (r.keeps h2) (fun b hb => hl b (by simp [hb]))
   exact ⟨h3, h2.trans h4⟩
theorem Sv.next (h : Sv A N s al pi σ) (hA : ∀ a ∈ A, a.t < N ∧ a.w ≤ dX) {v : Nat} {k : Int} (hk : σ.K v = some k) : Sv A N s al pi (scanS A al pi v (fq σ v)) ∧ jd (fq σ v) (scanS A al pi v (fq σ v)) :=
 Sv.scanL hA _ (h.close hk) (h.room v) (fun _ ha => js.1 ha)

def InH (A : List Arc) (al : Nat → Bool) (pi : Nat → Int) (a : Nat) : Prop := al a = true ∧ pi (A.getD a default).s < (FAR : Int) ∧ pi (A.getD a default).t < (FAR : Int)
instance (a : Nat) : Decidable (InH A al pi a) := by unfold InH; infer_instance
def kE (A : List Arc) (al : Nat → Bool) (pi : Nat → Int) : List Arc := ((List.range A.length).filter fun a => decide (InH A al pi a)).map fun a => A.getD a default
theorem qK {a : Arc} : a ∈ kE A al pi ↔ ∃ i, i < A.length ∧ InH A al pi i ∧ A.getD i default = a := by
 unfold kE
 simp only [List.mem_map, List.mem_filter, List.mem_range, decide_eq_true_eq, and_assoc]
def Feas (A : List Arc) (al : Nat → Bool) (pi : Nat → Int) : Prop := ∀ i, i < A.length → InH A al pi i → pi (A.getD i default).s ≤ (A.getD i default).w + pi (A.getD i default).t
theorem Sv.wk (h : Sv A N s al pi σ) : ∀ (n : Nat) {v : Nat}, (σ.P v).length ≤ n → (v ∈ σ.O ∨ σ.K v ≠ none) → Wk (kE A al pi) s v (σ.L v) := by
 have pv : ∀ v, (v ∈ σ.O ∨ σ.K v ≠ none) → pi v < (FAR : Int) := fun v hv => hv.elim (h.pc v) (fun hv => by
  cases hk : σ.K v with
  | none => exact absurd hk hv
  | some k => exact (h.op v k hk).2.2.1)
 intro n
 induction n with
 | zero =>
   intro v hn hv
   rcases h.path v hv with ⟨rfl, _, e⟩ | ⟨a, _, _, _, _, e, _⟩
   · rw [e]; exact .nil
   · rw [e] at hn; simp at hn
 | succ n ih =>
   intro v hn hv
   rcases h.path v hv with ⟨rfl, _, e⟩ | ⟨a, k1, k2, k3, k4, k5, k6⟩
   · rw [e]; exact .nil
   · rw [k5] at hn
     rw [k6]
     exact Wk.snoc' (ih (v := (A.getD a default).s) (by simpa using hn) (.inl k4)) (qK.2 ⟨a, k1, ⟨k2, h.pc _ k4, by rw [k3]; exact pv v hv⟩, rfl⟩) rfl k3 rfl
structure Fe (A : List Arc) (s : Nat) (al : Nat → Bool) (pi : Nat → Int) (σ : SS) (ex : Nat → Prop) : Prop where
 opt : ∀ v ∈ σ.O, ∀ w, Wk (kE A al pi) s v w → σ.L v ≤ w
 fr : ∀ a, a < A.length → InH A al pi a → (A.getD a default).s ∈ σ.O → ¬ ex a → (A.getD a default).t ∈ σ.O ∨ (σ.K (A.getD a default).t ≠ none ∧ σ.L (A.getD a default).t ≤ σ.L (A.getD a default).s + (A.getD a default).w)
 st : s ∈ σ.O ∨ (σ.K s ≠ none ∧ σ.L s = 0)
theorem Fe.front (f : Fe A s al pi σ (fun _ => False)) (h : Sv A N s al pi σ) (hF : Feas A al pi) {x w : Nat} (k : Wk (kE A al pi) s x w) : x ∈ σ.O ∨ ∃ y, σ.K y ≠ none ∧ (σ.L y : Int) + pi y ≤ w + pi x := by
 induction k with
 | nil => exact f.st.imp (fun h => h) (fun ⟨a, b⟩ => ⟨s, a, by rw [b]; omega⟩)
 | @snoc w a ha hw ih =>
   obtain ⟨i, hi, hh, rfl⟩ := qK.1 ha
   have fe := hF i hi hh
   rcases ih with ih | ⟨y, h1, h2⟩
   · rcases f.fr i hi hh ih (fun h => h) with h1 | ⟨h1, h2⟩
     · exact .inl h1
     · have := f.opt _ ih _ hw
       exact .inr ⟨_, h1, by omega⟩
   · exact .inr ⟨y, h1, by omega⟩
theorem Fe.popped (f : Fe A s al pi σ (fun _ => False)) (h : Sv A N s al pi σ) (hF : Feas A al pi) {v : Nat} {k : Int} (hp : Pops σ.K v k) :
 (∀ w, Wk (kE A al pi) s v w → σ.L v ≤ w) ∧ ∀ x w, x ∉ σ.O → Wk (kE A al pi) s x w → (σ.L v : Int) + pi v ≤ w + pi x := by
 have key : ∀ x w, x ∉ σ.O → Wk (kE A al pi) s x w → (σ.L v : Int) + pi v ≤ w + pi x := fun x w hx hw => by
  rcases f.front h hF hw with h1 | ⟨y, h1, h2⟩
  · exact absurd h1 hx
  · cases hk : σ.K y with
    | none => exact absurd hk h1
    | some k' =>
      have a := (h.op y k' hk).2.2.2
      have b := (h.op v k hp.1).2.2.2
      have c := hp.2 y k' hk
      omega
 refine ⟨fun w hw => ?_, key⟩
 have := key v w (h.op v k hp.1).2.1 hw
 omega
theorem Fe.close (f : Fe A s al pi σ (fun _ => False)) (h : Sv A N s al pi σ) (hF : Feas A al pi) {v : Nat} {k : Int} (hp : Pops σ.K v k) : Fe A s al pi (fq σ v) (fun a => (A.getD a default).s = v) := by
 have pv := (f.popped h hF hp).1
 refine ⟨fun u hu => ?_, fun a ha hh hs hx => ?_, ?_⟩
 · rcases List.mem_append.1 hu with hu | hu
   · exact f.opt u hu
   · simp at hu; subst hu; exact pv
 · rcases List.mem_append.1 hs with hs | hs
   · rcases f.fr a ha hh hs (fun h => h) with h1 | ⟨h1, h2⟩
     · exact .inl (List.mem_append_left _ h1)
     · by_cases e : (A.getD a default).t = v
       · exact .inl (List.mem_append_right _ (List.mem_singleton.2 e))
       · exact .inr ⟨by simp only [fq, cC]; rw [if_neg e]; exact h1, h2⟩
   · simp at hs; exact absurd hs hx
 · rcases f.st with h1 | ⟨h1, h2⟩
   · exact .inl (List.mem_append_left _ h1)
   · by_cases e : s = v
     · exact .inl (List.mem_append_right _ (List.mem_singleton.2 e))
     · exact .inr ⟨by simp only [fq, cC]; rw [if_neg e]; exact h1, h2⟩
theorem Fe.reach {ex ex' : Nat → Prop} (f : Fe A s al pi σ ex) {a v lab : Nat} {p : List Nat} (ht : (A.getD a default).t = v) (hl : lab = σ.L (A.getD a default).s + (A.getD a default).w) (hx : ∀ b, ¬ ex' b → ¬ ex b ∨ (b = a)) : Fe A s al pi (lu pi σ v lab p) ex' := by
 unfold lu
 split
 · rename_i hc
   refine ⟨f.opt, fun b hb hh hs hbx => ?_, f.st⟩
   rcases hx b hbx with h1 | rfl
   · exact f.fr b hb hh hs h1
   · rw [ht]
     rcases hc with hc | hc | ⟨h1, h2⟩
     · exact .inl hc
     · have := hh.2.2; rw [ht] at this; omega
     · exact .inr ⟨fun e => (by rw [e] at h1; cases h1), by omega⟩
 · rename_i hc
   simp only [not_or] at hc
   obtain ⟨c1, c2, c4⟩ := hc
   have c3 := fun h1 h2 => c4 ⟨h1, h2⟩
   have q : ∀ u ∈ σ.O, u ≠ v := fun u hu e => c1 (by subst e; exact hu)
   refine ⟨fun u hu => ?_, fun b hb hh hs hbx => ?_, ?_⟩
   · simp only [ik, if_neg (q u hu)]; exact f.opt u hu
   · simp only [ik, cC, if_neg (q _ hs)]
     by_cases e : (A.getD b default).t = v
     · right
       simp only [e, if_true]
       refine ⟨by nofun, ?_⟩
       rcases hx b hbx with h1 | rfl
       · rcases f.fr b hb hh hs h1 with h2 | ⟨h2, h3⟩
         · rw [e] at h2; exact absurd h2 c1
         · rw [e] at h2 h3
           have : ¬ σ.L v ≤ lab := c3 (by cases hk : σ.K v with | none => exact absurd hk h2 | some k => rfl)
           omega
       · omega
     · simp only [if_neg e]
       rcases hx b hbx with h1 | rfl
       · exact f.fr b hb hh hs h1
       · exact absurd ht e
   · rcases f.st with h1 | ⟨h1, h2⟩
     · exact .inl h1
     · by_cases e : s = v
       · subst e
         have : ¬ σ.L s ≤ lab := c3 (by cases hk : σ.K s with | none => exact absurd hk h1 | some k => rfl)
         omega
       · exact .inr ⟨by simp only [cC, if_neg e]; exact h1, by simp only [ik, if_neg e]; exact h2⟩
theorem Fe.exm {ex ex' : Nat → Prop} (f : Fe A s al pi σ ex) (h : ∀ a, a < A.length → ex a → ex' a) : Fe A s al pi σ ex' :=
 ⟨f.opt, fun a ha hh hs hx => f.fr a ha hh hs (fun he => hx (h a ha he)), f.st⟩
theorem Fe.scan1 {ex ex' : Nat → Prop} (f : Fe A s al pi σ ex) {a v : Nat} (hv : (A.getD a default).s = v) (hx : ∀ b, ¬ ex' b → ¬ ex b ∨ (b = a)) : Fe A s al pi (scan1 A al pi v σ a) ex' := by
 unfold Ab.scan1
 split
 · subst hv
   exact Fe.reach (σ := evS σ ⟨1, a, 0⟩) ⟨f.opt, f.fr, f.st⟩ rfl rfl hx
 · rename_i hal
   refine ⟨f.opt, fun b hb hh hs hbx => ?_, f.st⟩
   rcases hx b hbx with h | rfl
   · exact f.fr b hb hh hs h
   · exact absurd hh.1 hal
theorem Fe.scanL {v : Nat} : ∀ (l : List Nat) {σ : SS}, Fe A s al pi σ (· ∈ l) → (∀ a ∈ l, (A.getD a default).s = v) → Fe A s al pi (l.foldl (Ab.scan1 A al pi v) σ) (fun _ => False)
 | [], _, f, _ => f.exm (fun a _ h => by cases h)
 | a :: l, σ, f, hl => Fe.scanL l (f.scan1 (a := a) (hl a (by simp)) (fun b hb => by by_cases e : b = a; exact .inr e; exact .inl (by simp [e, hb]))) (fun b hb => hl b (by simp [hb]))
theorem Fe.next (f : Fe A s al pi σ (fun _ => False)) (h : Sv A N s al pi σ) (hF : Feas A al pi) {v : Nat} {k : Int} (hp : Pops σ.K v k) : Fe A s al pi (scanS A al pi v (fq σ v)) (fun _ => False) :=
 Fe.scanL _ ((f.close h hF hp).exm fun a ha hs => js.2 ⟨ha, hs⟩) (fun a ha => (js.1 ha).2)
theorem Wk.mono {B C : List Arc} (hm : ∀ a ∈ B, a ∈ C) {v w : Nat} (h : Wk B s v w) : Wk C s v w := by
 induction h with
 | nil => exact .nil
 | snoc ha _ ih => exact .snoc (hm _ ha) ih
theorem IsD.congr {B C : List Arc} (hm : ∀ a, a ∈ B ↔ a ∈ C) {v x : Nat} (h : IsD B s v x) : IsD C s v x := by
 rcases h with ⟨a, b, c⟩ | ⟨a, b⟩
 · exact .inl ⟨a, b.mono fun a => (hm a).1, fun w hw => c w (hw.mono fun a => (hm a).2)⟩
 · exact .inr ⟨a, fun w hw => b w (hw.mono fun a => (hm a).2)⟩
end
end Go.Ab

end
section
namespace Go.Ab
open Go.Proofs
set_option maxRecDepth 10000
def labC (N : Nat) (L : Nat → Nat) : List Value := (List.range N).map fun v => .int .i64 (L v : Nat)
def byI : List Nat → Int
 | [] => -1
 | a :: _ => (a : Nat)
def byC (N : Nat) (P : Nat → List Nat) : List Value := (List.range N).map fun v => .int .i64 (byI (P v))
def clC (N : Nat) (O : List Nat) : List Value := (List.range N).map fun v => .bool (decide (v ∈ O))
def srL (br bl bb bk N : Nat) (pn p fal fpi vE : Value) (σ : SS) : List (Nat × Ob) :=
 [(br, .row [pn, p, .slice (some ⟨bl, 0, none⟩) N N, .slice (some ⟨bb, 0, none⟩) N N, .slice (some ⟨bk, 0, none⟩) N N, fal, fpi, vE] 1), (bl, .row (labC N σ.L) 1), (bb, .row (byC N σ.P) 1), (bk, .row (clC N σ.O) 1)]
def srG (vE : Value) (σ : SS) : List GL := [(vE, 4, σ.ev.flatMap encE)]
def jP (h : Hp) (B : List Nat) (br : Nat) (pn fal fpi : Value) (N : Nat) (σ : SS) : Prop :=
 ∃ bl bb bk p F vE, B = keys (srL br bl bb bk N pn (ptrTo p) fal fpi vE σ) (srG vE σ) ++ F ∧ (∀ q ∈ srL br bl bb bk N pn (ptrTo p) fal fpi vE σ, Has h q.1 q.2) ∧ io h (vE, 4, σ.ev.flatMap encE) ∧ (keys (srL br bl bb bk N pn (ptrTo p) fal fpi vE σ) (srG vE σ)).Nodup ∧ cD h F (ptrTo p) N σ.K ∧ ∀ c ∈ F, c ∉ keys (srL br bl bb bk N pn (ptrTo p) fal fpi vE σ) (srG vE σ)
theorem St.ofHas {M : Nat → Prop} {h : Hp} {L : List (Nat × Ob)} {G : List GL} (ok : h.t.Sized h.n) (hL : ∀ q ∈ L, Has h q.1 q.2) (hG : ∀ p ∈ G, io h p) (nd : (keys L G).Nodup) (hM : ∀ c ∈ keys L G, M c) : St M h h L G :=
 ⟨Mo.refl ok, fun p hp => ⟨.inr (hM _ (fL hp)), hL p hp⟩, fun p hp => ⟨hG p hp, fun b hb => .inr (hM _ (fV hp hb))⟩, nd⟩
theorem jP.mo {M : Nat → Prop} {h h' : Hp} {B : List Nat} {br N : Nat} {pn fal fpi : Value} {σ : SS} (r : jP h B br pn fal fpi N σ) (g : Mo M h h') (hm : ∀ b ∈ B, ¬ M b) : jP h' B br pn fal fpi N σ := by
 obtain ⟨bl, bb, bk, p, F, vE, rfl, h1, h2, h3, h4, h5⟩ := r
 refine ⟨bl, bb, bk, p, F, vE, rfl, fun q hq => g.has (h1 q hq) (hm _ (List.mem_append_left _ (fL hq))), h2.of_get fun b hb => g.get b (h2.lt g.ok0 hb) (hm b (List.mem_append_left _ (fV (p := (vE, 4, σ.ev.flatMap encE)) m0 hb))), h3, h4.mo g (fun b hb => hm b (List.mem_append_right _ hb)), h5⟩
theorem jP.gr {h h' : Hp} {B : List Nat} {br N : Nat} {pn fal fpi : Value} {σ : SS} (r : jP h B br pn fal fpi N σ) (g : Gr h h') : jP h' B br pn fal fpi N σ := r.mo (M := NoM) g.fr (fun _ _ h => h)
theorem jP.lt {h : Hp} (ok : h.t.Sized h.n) {B : List Nat} {br N : Nat} {pn fal fpi : Value} {σ : SS} (r : jP h B br pn fal fpi N σ) : ∀ c ∈ B, c < h.n := by
 obtain ⟨bl, bb, bk, p, F, vE, rfl, h1, h2, h3, h4, h5⟩ := r
 intro c hc
 rcases List.mem_append.1 hc with hc | hc
 · exact (St.ofHas (M := fun _ => True) ok h1 (fun p hp => by cases hp with | head => exact h2 | tail _ h => cases h) h3 (fun _ _ => trivial)).key_lt hc
 · exact h4.lt ok c hc
theorem Gr.mo' {hq h h' : Hp} {B : List Nat} (g : Gr hq h) (f : Mo (· ∈ B) h h') (hB : ∀ c ∈ B, hq.n ≤ c) : Gr hq h' := ((g.fr (M := NoM)).trans f (fun i hi => .inr (hB i hi))).gr
end Go.Ab

end
section
namespace Go.Ab
open Go.Proofs
set_option maxRecDepth 10000
theorem jP.close {M : Nat → Prop} {h0 h : Hp} {br bl bb bk ph N : Nat} {F : List Nat} {pn fal fpi vE : Value} {σ : SS} (S : St M h0 h (srL br bl bb bk N pn (ptrTo ph) fal fpi vE σ) (srG vE σ)) (H : cD h F (ptrTo ph) N σ.K) (hF : ∀ c ∈ F, c ∉ keys (srL br bl bb bk N pn (ptrTo ph) fal fpi vE σ) (srG vE σ)) :
 jP h (keys (srL br bl bb bk N pn (ptrTo ph) fal fpi vE σ) (srG vE σ) ++ F) br pn fal fpi N σ :=
 ⟨bl, bb, bk, ph, F, vE, rfl, fun q hq => (S.own q hq).2, (S.gown _ m0).1, S.apart, H, hF⟩
theorem jP.open {h : Hp} (ok : h.t.Sized h.n) {B : List Nat} {br N : Nat} {pn fal fpi : Value} {σ : SS} (r : jP h B br pn fal fpi N σ) : ∃ bl bb bk ph F vE, B = keys (srL br bl bb bk N pn (ptrTo ph) fal fpi vE σ) (srG vE σ) ++ F ∧ St (· ∈ B) h h (srL br bl bb bk N pn (ptrTo ph) fal fpi vE σ) (srG vE σ) ∧ cD h F (ptrTo ph) N σ.K ∧ ∀ c ∈ F, c ∉ keys (srL br bl bb bk N pn (ptrTo ph) fal fpi vE σ) (srG vE σ) := by
 obtain ⟨bl, bb, bk, ph, F, vE, rfl, h1, h2, h3, h4, h5⟩ := r
 exact ⟨bl, bb, bk, ph, F, vE, rfl, St.ofHas ok h1 (fun p hp => by cases hp with | head => exact h2 | tail _ h => cases h) h3 (fun c hc => List.mem_append_left _ hc), h4, h5⟩
end Go.Ab

end
section
namespace Go.Ab
open Go.Proofs
set_option maxRecDepth 10000
end Go.Ab

end
section
namespace Go.Ab
open Go.Proofs
set_option maxRecDepth 10000
end Go.Ab

end
section
namespace Go.Ab
open Go.Proofs
set_option maxRecDepth 10000
open Tryz in
def Tryz.FFd1207 := aj a1 <| aj s1 <| aj z1 <| aj n1 <| aj u2 <| aj a2 <| aj s2 <| aj z2 <| i2
def wy (x : Int) : Int := min (max x 0) 72057594037927936
theorem tA {h0 : Hp} (ok : h0.t.Sized h0.n) {b1 b2 : Nat} {x : Int} (e1 : h0.load b1 0 1 = some [.int .i64 0]) (e2 : h0.load b2 0 1 = some [.int .i64 72057594037927936]) : bQ Tryz.abEnv 207 [.int .i64 x, ptrTo b1, ptrTo b2] h0 (.int .i64 (wy x)) := by
 have S := St.init (M := NoM) ok
 refine ah (n := 10) (rs := [.tmp 4]) rfl Tryz.e207 rfl rfl rfl (lbt rfl) ?_
 simp only [BS, LB, ag, Nat.reduceLT, Nat.reduceEqDiff, Tryz.FFd1207, e1, e2]
 exact ⟨rfl, S.gr⟩
theorem uD {h0 : Hp} (ok : h0.t.Sized h0.n) : Ret Tryz.abEnv 186 [.int .i64 0, .int .i64 72057594037927936] h0 fun v h => Gr h0 h ∧ ∃ b1 b2, v = .func (.func 207) #[] #[ptrTo b1, ptrTo b2] ∧ h.load b1 0 1 = some [.int .i64 0] ∧ h.load b2 0 1 = some [.int .i64 72057594037927936] := by
 have S := St.init (M := NoM) ok
 refine ah (n := 6) (rs := [.tmp 4]) rfl Tryz.e186 rfl rfl rfl (lbt rfl) ?_
 simp only [BS, Nat.reduceLT]
 refine ao (bS (by intro x e; cases e)) S ?_; clear S; intro h b1 S n_b1; simp only [an] at S
 simp only [BS, Nat.reduceLT, Nat.reduceEqDiff, if_false]
 refine ao (bS (by intro x e; cases e)) S ?_; clear S; intro h b2 S n_b2; simp only [an] at S
 simp only [BS, LB, ag, Nat.reduceLT, Nat.reduceEqDiff]
 exact ⟨S.gr, b1, b2, rfl, S.ld m1 rfl, S.ld m0 rfl⟩
theorem pM {h0 : Hp} (ok : h0.t.Sized h0.n) {x : Int} : bQ Tryz.abEnv 138 [.int .i64 x] h0 (.int .i64 (wy x)) := by
 have S := St.init (M := NoM) ok
 refine ah (n := 6) (rs := [.tmp 2]) rfl Tryz.e138 rfl rfl rfl (lbt rfl) ?_
 simp only [BS, LB]
 refine step_ret (uD S.ok) ?_; intro v h ⟨g, b1, b2, e, e1, e2⟩; replace S := S.call g; clear g
 subst e
 simp only [BS, LB, Nat.reduceLT, Nat.reduceEqDiff]
 refine ar (tA S.ok e1 e2) ?_; intro h g; replace S := S.call g; clear g
 simp only [BS, LB, ag, Nat.reduceLT, Nat.reduceEqDiff]
 exact S.gr
theorem qL {h0 : Hp} (ok : h0.t.Sized h0.n) {x : Int} : bQ Tryz.abEnv 139 [.int .i64 x] h0 (.bool (decide (wy x < 72057594037927936))) := by
 have S := St.init (M := NoM) ok
 refine ah (n := 6) (rs := [.tmp 2]) rfl Tryz.e139 rfl rfl rfl (lbt rfl) ?_
 simp only [BS, LB, Nat.reduceLT, Nat.reduceEqDiff]
 refine ar (pM S.ok) ?_; intro h g; replace S := S.call g; clear g
 simp only [BS, LB, ag, Nat.reduceLT, Nat.reduceEqDiff]
 exact S.gr
theorem wy_bd (x : Int) : 0 ≤ wy x ∧ wy x ≤ 72057594037927936 := by unfold wy; omega
theorem wy_id {x : Int} (h0 : 0 ≤ x) (h1 : x ≤ 72057594037927936) : wy x = x := by unfold wy; omega
def lowD (v t : Int) : Int := if wy t < 72057594037927936 then (if wy v < 72057594037927936 then wy (wy v - wy t) else 72057594037927936) else 0
theorem low_ok {h0 : Hp} (ok : h0.t.Sized h0.n) {v t : Int} : bQ Tryz.abEnv 81 [.int .i64 v, .int .i64 t] h0 (.int .i64 (lowD v t)) := by
 have S := St.init (M := NoM) ok
 have b1 := wy_bd v
 have b2 := wy_bd t
 have e1 : wy (wy v) = wy v := wy_id b1.1 b1.2
 have e2 : wy (wy t) = wy t := wy_id b2.1 b2.2
 have w : au .i64 (wy v - wy t) = wy v - wy t := by rw [wrap64] <;> omega
 refine ah (n := 21) (rs := [.tmp 4]) rfl Tryz.e81 rfl rfl rfl (lbt rfl) ?_
 simp only [BS, LB, Nat.reduceLT, Nat.reduceEqDiff]
 refine ar (pM S.ok) ?_; intro h g; replace S := S.call g; clear g
 simp only [BS, LB, Nat.reduceLT, Nat.reduceEqDiff]
 refine ar (pM S.ok) ?_; intro h g; replace S := S.call g; clear g
 simp only [BS, LB, Nat.reduceLT, Nat.reduceEqDiff]
 refine ar (qL S.ok) ?_; intro h g; replace S := S.call g; clear g
 unfold lowD
 by_cases h1 : wy t < 72057594037927936
 · simp only [BS, LB, Nat.reduceLT, Nat.reduceEqDiff, e2, h1]
   refine ar (qL S.ok) ?_; intro h g; replace S := S.call g; clear g
   by_cases h2 : wy v < 72057594037927936
   · simp only [BS, LB, Nat.reduceLT, Nat.reduceEqDiff, e1, h2, w]
     refine ar (pM S.ok) ?_; intro h g; replace S := S.call g; clear g
     simp only [BS, LB, ag, Nat.reduceLT, Nat.reduceEqDiff]
     exact S.gr
   · simp only [BS, LB, ag, Nat.reduceLT, Nat.reduceEqDiff, e1, h2]
     exact S.gr
 · simp only [BS, LB, ag, Nat.reduceLT, Nat.reduceEqDiff, e2, h1]
   exact S.gr
theorem lift_ok {h0 : Hp} (ok : h0.t.Sized h0.n) {v t : Int} : bQ Tryz.abEnv 83 [.int .i64 v, .int .i64 t] h0 (.int .i64 (lowD t v)) := by
 have S := St.init (M := NoM) ok
 refine ah (n := 8) (rs := [.tmp 4]) rfl Tryz.e83 rfl rfl rfl (lbt rfl) ?_
 simp only [BS, LB, Nat.reduceLT, Nat.reduceEqDiff]
 refine ar (low_ok S.ok) ?_; intro h g; replace S := S.call g; clear g
 simp only [BS, LB, ag, Nat.reduceLT, Nat.reduceEqDiff]
 exact S.gr
end Go.Ab

end
section
namespace Go.Ab
structure YldP (E : Env) (lb : Nat) (J : Nat → Hp → List Nat → Prop) (n : Nat) (P : Nat → Hp → List Nat → List Value → Prop) : Prop where
 lt : ∀ i h F, J i h F → h.t.Sized h.n ∧ ∀ b ∈ F, b < h.n
 gr : ∀ i h F h', J i h F → Gr h h' → J i h' F
 round : ∀ i x h F, i < n → P i h F x → J i h F → iz E lb x h fun o h' => o = .ret (.bool true) ∧ ∃ F', J (i + 1) h' F' ∧ Mo (· ∈ F) h h' ∧ ∀ b ∈ F', b ∈ F ∨ h.n ≤ b
def IterP (E : Env) (g : FuncId) (post : List Value) (h0 : Hp) (D : Nat → Prop) (n : Nat) (P : Nat → Hp → List Nat → List Value → Prop) : Prop :=
 ∀ lb J, YldP E lb J n P → ∀ h F, ItS h0 D h F → J 0 h F → d9 E g (.func (.yield lb) #[] #[] :: post) none h fun o rc h' => rc = none ∧ ∃ u F', o = .ret u ∧ J n h' F'
theorem tq {E : Env} {cx : Cx} {o : Oper} {l : Loc} {K : Ex → Loc → Hp → Prop} {h0 h : Hp} {D : Nat → Prop} {lb i n : Nat} {J : Nat → Hp → List Nat → Prop} {P : Nat → Hp → List Nat → List Value → Prop} {x : List Value} {F : List Nat}
 (Y : YldP E lb J n P) (s : ItS h0 D h F) (hj : J i h F) (hi : i < n) (hx : P i h F x)
 (k1 : ∀ h' F', J (i + 1) h' F' → ItS h0 D h' F' → Mo (· ∈ F) h h' → (∀ b ∈ F', b ∈ F ∨ h.n ≤ b) → K .normal (l.put o.dst (.bool true)) h') : dL E cx o l K (some (.yield lb x, h)) := by
 refine oX (Y.round i x h F hi hx hj) ?_
 rintro q h' ⟨rfl, F', a, b, c⟩
 exact k1 h' F' a (s.mo b c (Y.lt _ _ _ a).2) b c
def encV (w : Value) : List Value := [w]
theorem mg (w : Value) : (encV w).length = 1 := rfl
theorem mU (l : List Value) : l.flatMap encV = l := by
 induction l with
 | nil => rfl
 | cons x l ih => rw [List.flatMap_cons, ih]; rfl
def dI (h : Hp) (m : Nat) (v : Value) (n : Nat) (R : Nat → List Int) : Prop :=
 ∃ ws : List Value, aB h 1 encV v ws ∧ ws.length = n ∧ (∀ c, ax v c → m ≤ c) ∧ ∀ i w, ws[i]? = some w → aB h 1 (encI .i64) w (R i) ∧ ∀ c, ax w c → m ≤ c
theorem dI.mo {M : Nat → Prop} {h h' : Hp} {m n : Nat} {v : Value} {R : Nat → List Int} (r : dI h m v n R) (g : Mo M h h') (hm : ∀ b, M b → b < m) : dI h' m v n R := by
 obtain ⟨ws, a, b, c, d⟩ := r
 exact ⟨ws, a.mo g (fun x hx hM => by have := c x hx; have := hm x hM; omega), b, c, fun i w hw => ⟨(d i w hw).1.mo g (fun x hx hM => by have := (d i w hw).2 x hx; have := hm x hM; omega), (d i w hw).2⟩⟩
theorem dI.gr {h h' : Hp} {m n : Nat} {v : Value} {R : Nat → List Int} (r : dI h m v n R) (g : Gr h h') : dI h' m v n R := r.mo (M := NoM) g.fr (fun _ h => h.elim)
theorem dI.low {h : Hp} {m m' n : Nat} {v : Value} {R : Nat → List Int} (r : dI h m v n R) (hm : m' ≤ m) : dI h m' v n R := by
 obtain ⟨ws, a, b, c, d⟩ := r
 exact ⟨ws, a, b, fun x hx => Nat.le_trans hm (c x hx), fun i w hw => ⟨(d i w hw).1, fun x hx => Nat.le_trans hm ((d i w hw).2 x hx)⟩⟩
theorem dI.row {h : Hp} {m n : Nat} {v : Value} {R : Nat → List Int} (r : dI h m v n R) {i : Nat} (hi : i < n) : ∃ w, (∃ c o, idxS (some 1) v (.int .i64 (i : Nat)) = some (.pointer (some ⟨c, o, none⟩)) ∧ h.load c o 1 = some [w]) ∧ aB h 1 (encI .i64) w (R i) ∧ ∀ c, ax w c → m ≤ c := by
 obtain ⟨ws, a, b, c, d⟩ := r
 obtain ⟨q, o, e1, e2⟩ := a.ix (kd := .i64) mg (i := i) (by omega)
 have hw : ws[i]? = some ws[i] := List.getElem?_eq_getElem (by omega)
 exact ⟨ws[i], ⟨q, o, e1, e2⟩, (d i _ hw).1, (d i _ hw).2⟩
theorem flat_nat (l : List Nat) : l.flatMap eC = (l.map fun (x : Nat) => (x : Int)).flatMap (encI .i64) := by
 induction l with
 | nil => rfl
 | cons x l ih => rw [List.flatMap_cons, List.map_cons, List.flatMap_cons, ih]; rfl
theorem sl_nat {h : Hp} {v : Value} {l : List Nat} (s : aB h 1 eC v l) : aB h 1 (encI .i64) v (l.map fun (x : Nat) => (x : Int)) := by
 rcases s with ⟨rfl, rfl⟩ | ⟨b, o, s, c, rfl, h2, h3⟩
 · exact .inl ⟨rfl, rfl⟩
 · refine .inr ⟨b, o, s, c, by rw [List.length_map], by rw [List.length_map]; exact h2, ?_⟩
   rw [List.length_map, h3, flat_nat]
def fD (N : Nat) (l : List Int) : Prop := l.length ≤ 16 ∧ ∀ i, i < l.length → 0 ≤ l.getD i 0 ∧ l.getD i 0 < N ∧ l.getD i 0 ∉ l.take i
theorem fD.push {N : Nat} {l : List Int} (h : fD N l) (hl : l.length < 16) {x : Int} (h0 : 0 ≤ x) (hN : x < N) (hx : x ∉ l) : fD N (l ++ [x]) := by
 refine ⟨by simp; omega, fun i hi => ?_⟩
 simp at hi
 by_cases e : i = l.length
 · subst e
   have e1 : (l ++ [x]).getD l.length 0 = x := by simp [List.getD_eq_getElem?_getD]
   rw [e1, List.take_left']
   exact ⟨h0, hN, hx⟩
   rfl
 · have hil : i < l.length := by omega
   have e1 : (l ++ [x]).getD i 0 = l.getD i 0 := by simp [List.getD_eq_getElem?_getD, List.getElem?_append_left hil]
   rw [e1, List.take_append_of_le_length (by omega)]
   exact h.2 i hil
theorem mayL_nil (N : Nat) : fD N [] := ⟨by simp, fun i hi => by simp at hi⟩
structure TabAt (h : Hp) (m : Nat) (p : Value) (N : Nat) (marks : List Int) (R Q : Nat → List Int) : Prop where
 ex : ∃ b vM vT vF, p = ptrTo b ∧ Row h b [.int .i64 N, vM, vT, vF] 1 ∧ aB h 1 (encI .i64) vM marks ∧ dI h m vT marks.length R ∧ dI h m vF marks.length Q ∧ m ≤ b ∧ ∀ c, ax vM c → m ≤ c
theorem TabAt.mo {M : Nat → Prop} {h h' : Hp} {m N : Nat} {p : Value} {marks : List Int} {R Q : Nat → List Int} (t : TabAt h m p N marks R Q) (g : Mo M h h') (hm : ∀ b, M b → b < m) : TabAt h' m p N marks R Q := by
 obtain ⟨b, vM, vT, vF, e, h1, h2, h3, h4, h5, h6⟩ := t.ex
 exact ⟨b, vM, vT, vF, e, g.has (o := .row _ 1) h1 (fun h => by have := hm _ h; omega), h2.mo g (fun x hx hM => by have := h6 x hx; have := hm x hM; omega), h3.mo g hm, h4.mo g hm, h5, h6⟩
theorem TabAt.gr {h h' : Hp} {m N : Nat} {p : Value} {marks : List Int} {R Q : Nat → List Int} (t : TabAt h m p N marks R Q) (g : Gr h h') : TabAt h' m p N marks R Q := t.mo (M := NoM) g.fr (fun _ h => h.elim)
theorem dI.lenq {h h' : Hp} {m n : Nat} {v : Value} {R : Nat → List Int} {e : TypeId} (r : dI h' m v n R) : lenQ (some (.slice e)) h v = some (.val (.int .i64 n), h) := by
 have ⟨ws, a, b, _⟩ := r
 rw [← b]; exact a.lenq
end Go.Ab

end
section
namespace Go.Ab
open Go.Proofs
set_option maxRecDepth 10000
open Tryz in
def Tryz.FFtb1122 := aj a1 <| aj s1 <| aj z1 <| aj n1 <| aj u2 <| aj a2 <| aj s2 <| aj z2 <| aj i2 <| aj u3 <| aj a3 <| aj s3 <| aj z3 <| aj i3 <| aj u4 <| aj a4 <| aj s4 <| aj z4 <| aj n4 <| aj u193 <| aj a193 <| aj s193 <| aj z193 <| n193
open Tryz in
def Tryz.FFtb1180 := aj a1 <| aj s1 <| aj z1 <| aj n1 <| aj u2 <| aj a2 <| aj s2 <| aj z2 <| aj i2 <| aj u3 <| aj a3 <| aj s3 <| aj z3 <| aj i3 <| aj u4 <| aj a4 <| aj s4 <| aj z4 <| aj n4 <| aj u5 <| aj a5 <| aj s5 <| aj z5 <| aj i5 <| aj u6 <| aj a6 <| aj s6 <| aj z6 <| aj i6 <| aj a7 <| aj s7 <| aj z7 <| aj i7 <| aj n7 <| aj p7 <| aj ff7 <| aj d7 <| aj u43 <| aj a43 <| aj s43 <| aj z43 <| aj q43 <| aj n43 <| aj a111 <| aj s111 <| aj z111 <| n111
open Tryz in
def Tryz.FFtb162 := aj a1 <| aj s1 <| aj z1 <| aj n1 <| aj u2 <| aj a2 <| aj s2 <| aj z2 <| aj i2 <| aj u3 <| aj a3 <| aj s3 <| aj z3 <| aj i3 <| aj u4 <| aj a4 <| aj s4 <| aj z4 <| aj n4 <| aj u43 <| aj a43 <| aj s43 <| aj z43 <| aj q43 <| aj n43 <| aj a111 <| aj s111 <| aj z111 <| aj n111 <| aj u193 <| aj a193 <| aj s193 <| aj z193 <| n193
theorem may1_ok {h0 : Hp} (ok : h0.t.Sized h0.n) {b5 b2 bm c N k : Nat} {x : Int} {es : List (Value × Value × Nat)} {f : Int → Option Value} (e5 : h0.load b5 0 1 = some [.map (some bm)]) (e2 : h0.load b2 0 1 = some [.int .i64 N]) (hm : h0.get bm = some (.map es c)) (MI : cQ es c f) (hf : (f x).getD (.int .i64 0) = .int .i64 k) (hk : k ≤ 1) (n5 : b5 ≠ bm) (n2 : b2 ≠ bm) :
 Ret Tryz.abEnv 122 [.int .i64 x, ptrTo b5, ptrTo b2] h0 fun r h' => Mo (· = bm) h0 h' ∧ r = .bool (decide (x < 0 ∨ (N : Int) ≤ x ∨ k = 1)) ∧ ∃ es' c', h'.get bm = some (.map es' c') ∧ cQ es' c' (c9 f x (some (.int .i64 (k + 1 : Nat)))) := by
 have S := St.init1 ok (o := .map es c) hm
 have lk := nP (x := x) Tryz.u193 Tryz.u3 (z := .int .i64 0) (by kernel_rfl) hm MI
 rw [hf] at lk
 have w : au .i64 ((k : Int) + 1) = ((k + 1 : Nat) : Int) := by rw [wrap64] <;> omega
 refine ah (n := 22) (rs := [.tmp 4]) rfl Tryz.e122 rfl rfl rfl (lbt rfl) ?_
 simp only [BS, LB, Nat.reduceLT, Nat.reduceEqDiff, Tryz.FFtb1122, e5, lk, w]
 refine ac (S.mputI (i := 0) rfl Tryz.u193 Tryz.u3 MI _) ?_
 clear S; rintro h ⟨_, es', c', MI', S⟩
 simp only [List.set_cons_zero] at S
 have e5' := S.old e5 n5
 have e2' := S.old e2 n2
 have hg : h.get bm = some (.map es' c') := (S.own _ m0).2
 have lk2 := nP (x := x) Tryz.u193 Tryz.u3 (z := .int .i64 0) (by kernel_rfl) hg MI'
 rw [show c9 f x (some (.int .i64 ((k + 1 : Nat) : Int))) x = some (.int .i64 ((k + 1 : Nat) : Int)) by unfold c9; rw [if_pos rfl], Option.getD_some] at lk2
 by_cases c1 : x < 0
 · simp only [BS, LB, ag, Nat.reduceLT, Nat.reduceEqDiff, c1]
   exact ⟨S.fr, by simp [c1], es', c', hg, MI'⟩
 · by_cases c2 : (N : Int) ≤ x
   · simp only [BS, LB, ag, Nat.reduceLT, Nat.reduceEqDiff, Tryz.FFtb1122, e2', c1, c2]
     exact ⟨S.fr, by simp [c2], es', c', hg, MI'⟩
   · by_cases c3 : k = 1
     · subst c3
       simp only [BS, LB, ag, Nat.reduceLT, Nat.reduceEqDiff, Nat.reduceAdd, Int.reduceLT, Int.cast_ofNat_Int, Tryz.FFtb1122, e5', e2', c1, c2, lk2]
       exact ⟨S.fr, by simp, es', c', hg, MI'⟩
     · have k0 : k = 0 := by omega
       subst k0
       simp only [BS, LB, ag, Nat.reduceLT, Nat.reduceEqDiff, Int.reduceLT, Int.cast_ofNat_Int, Tryz.FFtb1122, e5', e2', c1, c2, lk2]
       exact ⟨S.fr, by simp [c1, c2], es', c', hg, MI'⟩
def OkAt (N : Nat) (l : List Int) (i : Nat) : Prop := 0 ≤ l.getD i 0 ∧ l.getD i 0 < N ∧ l.getD i 0 ∉ l.take i
theorem mayIdx_ok {h0 : Hp} (ok : h0.t.Sized h0.n) {b5 b2 bm N : Nat} {v : Value} {l : List Int} (hv : aB h0 1 (encI .i64) v l) (hl : l.length ≤ 1000) (e5 : h0.load b5 0 1 = some [.map (some bm)]) (e2 : h0.load b2 0 1 = some [.int .i64 N]) (hm : h0.get bm = some (.map [] 0)) (n5 : b5 ≠ bm) (n2 : b2 ≠ bm) :
 Ret Tryz.abEnv 180 [v, .func (.func 122) #[] #[ptrTo b5, ptrTo b2]] h0 fun r h' => Mo (· = bm) h0 h' ∧ ∃ z, r = .int .i64 z ∧ (0 ≤ z ↔ ¬ ∀ i, i < l.length → OkAt N l i) := by
 have hvb : ∀ c, ax v c → ¬ c = bm := by
  rintro c hc rfl
  rcases hv with ⟨rfl, _⟩ | ⟨b, o, s, c', rfl, _, h3⟩
  · exact hc.elim
  · have : b = c := hc
    subst this
    simp [Hp.load, hm] at h3
 refine ah (n := 19) (rs := [.tmp 4]) rfl Tryz.e180 rfl rfl rfl (lbt rfl) ?_
 simp only [BS, LB, Nat.reduceLT, Nat.reduceEqDiff, Tryz.FFtb1180, hv.lenq]
 refine bE (fun (i : Nat) ρ h => i ≤ l.length ∧ Mo (· = bm) h0 h ∧ (∃ es c f, h.get bm = some (.map es c) ∧ cQ es c f ∧ ∀ x, f x = if x ∈ l.take i then some (.int .i64 1) else none) ∧ (∀ j, j < i → OkAt N l j) ∧ ρ 0 = v ∧ ρ 1 = .func (.func 122) #[] #[ptrTo b5, ptrTo b2] ∧ ρ 7 = .int .i64 l.length ∧ ρ 8 = .int .i64 i) (fun i => l.length - i) ?_ 0 _ _ ?_
 · intro i ih ρ h ⟨hi, mo, ⟨es, c, f, hg, MI, hf⟩, hok, r0, r1, r7, r8⟩
   by_cases hlt : i < l.length
   · obtain ⟨q, o, hidx, hld⟩ := (hv.mo mo hvb).ix (kd := .i64) (cN .i64) hlt
     have w : au .i64 ((i : Int) + 1) = ((i + 1 : Nat) : Int) := by rw [wrap64] <;> omega
     have ld : ∀ {b : Nat} {x}, b ≠ bm → h0.load b 0 1 = some x → h.load b 0 1 = some x := fun hne e => by
      have := mo.get _ (cG mo.ok0 e) hne
      unfold Hp.load at e ⊢
      rw [this]; exact e
     have gd : l.getD i 0 = l[i] := by simp [List.getD_eq_getElem?_getD, hlt]
     simp only [BS, LB, Nat.reduceLT, Nat.reduceEqDiff, Tryz.FFtb1180, r0, r1, r7, r8, aF, hlt, hidx, hld, encI]
     refine step_ret (may1_ok mo.ok (x := l[i]) (N := N) (k := if l[i] ∈ l.take i then 1 else 0) (ld n5 e5) (ld n2 e2) hg MI (by rw [hf]; split <;> rfl) (by split <;> omega) n5 n2) ?_
     rintro r h' ⟨f1, rfl, es', c', hg', MI'⟩
     have mo' := mo.trans f1 (fun _ h => .inl h)
     by_cases hw : OkAt N l i
     · have e : decide (l[i] < 0 ∨ (N : Int) ≤ l[i] ∨ (if l[i] ∈ l.take i then 1 else 0) = 1) = false := by
        obtain ⟨w1, w2, w3⟩ := hw
        rw [gd] at w1 w2 w3
        rw [if_neg w3]
        simp; omega
       rw [e]
       have nm : l[i] ∉ l.take i := by have := hw.2.2; rwa [gd] at this
       simp only [BS, LB, Nat.reduceLT, Nat.reduceEqDiff, r8, w]
       refine ih (i + 1) _ _ (by omega) ⟨by omega, mo', ⟨es', c', _, hg', MI', fun x => ?_⟩, fun j hj => ?_, by simp [aa, r0], by simp [aa, r1, ae], by simp [aa, r7], by simp [aa]⟩
       · have et := List.take_succ_eq_append_getElem hlt
         rw [if_neg nm]
         unfold c9
         by_cases ex : x = l[i]
         · rw [if_pos ex, if_pos (by rw [et]; exact List.mem_append_right _ (List.mem_singleton.2 ex))]; rfl
         · rw [if_neg ex, hf]
           have : x ∈ l.take (i + 1) ↔ x ∈ l.take i := by rw [et, List.mem_append, List.mem_singleton]; exact ⟨fun h => h.resolve_right ex, .inl⟩
           simp only [this]
       · by_cases e2 : j = i
         · subst e2; exact hw
         · exact hok j (by omega)
     · have e : decide (l[i] < 0 ∨ (N : Int) ≤ l[i] ∨ (if l[i] ∈ l.take i then 1 else 0) = 1) = true := by
        unfold OkAt at hw
        rw [gd] at hw
        simp only [decide_eq_true_eq]
        by_cases nm : l[i] ∈ l.take i
        · rw [if_pos nm]; exact .inr (.inr rfl)
        · by_cases a1 : l[i] < 0
          · exact .inl a1
          · by_cases a2 : (N : Int) ≤ l[i]
            · exact .inr (.inl a2)
            · exact absurd ⟨by omega, by omega, nm⟩ hw
       rw [e]
       simp only [BS, LB, ag, Nat.reduceLT, Nat.reduceEqDiff]
       exact ⟨mo', _, rfl, by simp only [Int.natCast_nonneg, true_iff]; exact fun h => hw (h i hlt)⟩
   · simp only [BS, LB, ag, Nat.reduceLT, Nat.reduceEqDiff, r7, r8, aF, hlt]
     exact ⟨mo, _, rfl, ⟨fun h => by omega, fun h => absurd (fun j hj => hok j (by omega)) h⟩⟩
 · exact ⟨Nat.zero_le _, Mo.refl ok, ⟨[], 0, fun _ => none, hm, oq, fun x => by simp⟩, fun j hj => by omega, by simp [aa, bg], by simp [aa, bg, cv, ae], by simp [aa], by simp [aa]⟩
noncomputable instance mayDec (N : Nat) (l : List Int) : Decidable (fD N l) := Classical.propDecidable _
theorem mayCf_ok {h0 : Hp} (ok : h0.t.Sized h0.n) {b5 b2 bm N : Nat} {v : Value} {l : List Int} (hv : aB h0 1 (encI .i64) v l) (hl : l.length ≤ 1000) (e5 : h0.load b5 0 1 = some [.map (some bm)]) (e2 : h0.load b2 0 1 = some [.int .i64 N]) (hm : h0.get bm = some (.map [] 0)) (n5 : b5 ≠ bm) (n2 : b2 ≠ bm) (d : Decidable (∀ i, i < l.length → OkAt N l i)) :
 Ret Tryz.abEnv 123 [v, .func (.func 122) #[] #[ptrTo b5, ptrTo b2]] h0 fun r h' => Mo (· = bm) h0 h' ∧ r = .bool (!decide (∀ i, i < l.length → OkAt N l i)) := by
 refine ah (n := 9) (rs := [.tmp 4]) rfl Tryz.e123 rfl rfl rfl (lbt rfl) ?_
 simp only [BS, LB, Nat.reduceLT, Nat.reduceEqDiff]
 refine step_ret (mayIdx_ok ok hv hl e5 e2 hm n5 n2) ?_
 rintro r h ⟨mo, z, rfl, hz⟩
 by_cases c : ∀ i, i < l.length → OkAt N l i
 · have c2 : ¬ (0 ≤ z) := fun h => hz.1 h c
   simp only [BS, LB, ag, Nat.reduceLT, Nat.reduceEqDiff, c2]
   exact ⟨mo, by rw [decide_eq_true c]; rfl⟩
 · have c2 : 0 ≤ z := hz.2 c
   simp only [BS, LB, ag, Nat.reduceLT, Nat.reduceEqDiff, c2]
   exact ⟨mo, by rw [decide_eq_false c]; rfl⟩
theorem may_ok {h0 : Hp} (ok : h0.t.Sized h0.n) {v : Value} {l : List Int} {N : Nat} (hv : aB h0 1 (encI .i64) v l) (hl : l.length ≤ 1000) : bQ Tryz.abEnv 62 [.int .i64 N, v] h0 (.bool (decide (fD N l))) := by
 have S := St.init (M := NoM) ok
 refine ah (n := 18) (rs := [.tmp 4]) rfl Tryz.e62 rfl rfl rfl (lbt rfl) ?_
 simp only [BS, Nat.reduceLT]
 refine ao (bS (by intro x e; cases e)) S ?_; clear S; intro h b2 S n_b2; simp only [an] at S
 simp only [BS]
 refine ao pY S ?_; clear S; intro h bm S n_bm
 simp only [BS, Tryz.FFtb162]
 refine ao aJ S ?_; clear S; intro h b5 S n_b5
 simp only [BS, LB, Nat.reduceLT, Nat.reduceEqDiff]
 first | refine ac (ab S (i := 0) rfl ?_ ?_ ?_ ono) ?_ | refine ac (ab S (i := 1) rfl ?_ ?_ ?_ ono) ?_ | refine ac (ab S (i := 2) rfl ?_ ?_ ?_ ono) ?_ | refine ac (ab S (i := 3) rfl ?_ ?_ ?_ ono) ?_ | refine ac (ab S (i := 4) rfl ?_ ?_ ?_ ono) ?_ | refine ac (ab S (i := 5) rfl ?_ ?_ ?_ ono) ?_ | refine ac (ab S (i := 6) rfl ?_ ?_ ?_ ono) ?_ | refine ac (ab S (i := 7) rfl ?_ ?_ ?_ ono) ?_
 · exact (by simp only [Tryz.FFtb162])
 · exact (by first | exact aM | exact aw | exact aX | exact aT | exact bo | exact aP | exact aU | exact aK | exact aV | exact bz | assumption)
 · exact Nat.lt_of_succ_le (lbt rfl)
 clear S; rintro h ⟨S, mo⟩; clear mo; simp only [List.set_cons_zero, List.set_cons_succ, an, lay, List.take, List.drop, List.nil_append, List.cons_append, List.append_nil, List.length_cons, List.length_nil, Nat.reduceAdd, Nat.add_zero] at S
 by_cases h16 : l.length ≤ 16
 · have c1 : (l.length : Int) ≤ 16 := by omega
   simp only [BS, LB, Nat.reduceLT, Nat.reduceEqDiff, Tryz.FFtb162, hv.lenq, c1]
   have ap := S.apart
   simp only [keys, List.map_cons, List.map_nil, List.filterMap_nil, List.append_nil, List.nodup_cons, List.mem_cons, List.not_mem_nil, or_false, not_or] at ap
   have d : Decidable (∀ i, i < l.length → OkAt N l i) := Classical.propDecidable _
   refine step_ret (mayCf_ok S.ok (hv.gr S.gr) hl (S.ld (b := b5) (o := 0) m0 rfl) (S.ld (b := b2) (o := 0) m2 rfl) (S.own _ m1).2 ap.1.1 (fun e => ap.2.1 e.symm) d) ?_
   rintro r h ⟨mo, rfl⟩
   have g2 : Gr h0 h := (S.fr.trans mo (fun c hc => .inr (by subst hc; exact n_bm)) : Mo NoM h0 h).gr
   simp only [BS, LB, ag, Nat.reduceLT, Nat.reduceEqDiff]
   refine ⟨?_, g2⟩
   congr 1
   by_cases c : ∀ i, i < l.length → OkAt N l i
   · have : fD N l := ⟨h16, c⟩
     rw [decide_eq_true c, decide_eq_true this]; rfl
   · have : ¬ fD N l := fun h => c h.2
     rw [decide_eq_false c, decide_eq_false this]; rfl
 · have c1 : ¬ (l.length : Int) ≤ 16 := by omega
   simp only [BS, LB, ag, Nat.reduceLT, Nat.reduceEqDiff, Tryz.FFtb162, hv.lenq, c1]
   exact ⟨by have : ¬ fD N l := fun h => h16 h.1; simp [this], S.gr⟩
end Go.Ab

end
section
namespace Go.Ab
open Go.Proofs
set_option maxRecDepth 10000
open Tryz in
def Tryz.FFtb2125 := aj a1 <| aj s1 <| aj z1 <| aj n1 <| aj u2 <| aj a2 <| aj s2 <| aj z2 <| aj i2 <| aj u3 <| aj a3 <| aj s3 <| aj z3 <| aj i3 <| aj u4 <| aj a4 <| aj s4 <| aj z4 <| aj n4 <| aj u25 <| aj a25 <| aj s25 <| aj z25 <| aj q25 <| aj n25 <| aj a31 <| aj s31 <| aj z31 <| aj i31 <| aj n31 <| aj p31 <| aj ff31 <| aj d31 <| aj u33 <| aj a33 <| aj s33 <| aj z33 <| aj q33 <| aj i33 <| aj n33 <| aj u43 <| aj a43 <| aj s43 <| aj z43 <| aj q43 <| aj n43 <| aj a126 <| aj s126 <| aj z126 <| aj n126 <| aj a131 <| aj s131 <| aj z131 <| aj n131 <| aj u163 <| aj a163 <| aj s163 <| aj z163 <| aj q163 <| aj n163 <| aj a165 <| aj s165 <| aj z165 <| aj i165 <| aj n165 <| aj p165 <| aj ff165 <| aj d165 <| aj a197 <| aj s197 <| aj z197 <| aj i197 <| aj n197 <| aj p197 <| aj ff197 <| d197
open Tryz in
def Tryz.FFtb2124 := aj a1 <| aj s1 <| aj z1 <| aj n1 <| aj u2 <| aj a2 <| aj s2 <| aj z2 <| aj i2 <| aj u3 <| aj a3 <| aj s3 <| aj z3 <| aj i3 <| aj u4 <| aj a4 <| aj s4 <| aj z4 <| aj n4 <| aj u6 <| aj a6 <| aj s6 <| aj z6 <| aj i6 <| aj a7 <| aj s7 <| aj z7 <| aj i7 <| aj n7 <| aj p7 <| aj ff7 <| aj d7 <| aj u25 <| aj a25 <| aj s25 <| aj z25 <| aj q25 <| aj n25 <| aj u68 <| aj a68 <| aj s68 <| aj z68 <| aj q68 <| aj n68 <| aj a124 <| aj s124 <| aj z124 <| n124
open Classical in
noncomputable def dOf (B : List Arc) (s v : Nat) : Nat := if h : ∃ x, IsD B s v x then h.choose else 0
theorem dOf_is {B : List Arc} {s v x : Nat} (h : IsD B s v x) : dOf B s v = x ∧ IsD B s v (dOf B s v) := by
 have he : ∃ x, IsD B s v x := ⟨x, h⟩
 have e : dOf B s v = he.choose := by unfold dOf; rw [dif_pos he]
 rw [e]
 exact ⟨he.choose_spec.uniq h, he.choose_spec⟩
noncomputable def rowD (B : List Arc) (N s : Nat) : List Int := (List.range N).map fun v => ((dOf B s v : Nat) : Int)
theorem rowD_of {B : List Arc} {N s : Nat} {D : Nat → Nat} (h : ∀ v, IsD B s v (D v)) : ((List.range N).map D).map (fun (x : Nat) => (x : Int)) = rowD B N s := by
 unfold rowD
 rw [List.map_map]
 refine List.map_congr_left fun v _ => ?_
 show ((D v : Nat) : Int) = _
 rw [(dOf_is (h v)).1]
def RunF (E : Env) (g : FuncId) (γ : Gra) (pn : Value) (B : List Arc) : Prop := ∀ (h : Hp) (nb : Nat), h.t.Sized h.n → dg h nb pn γ → ∀ s, s < γ.nodes → Ret E g [pn, .int .i64 (s : Nat)] h fun r h' => Gr h h' ∧ po h' h.n r B s γ.nodes
theorem runTo {γ : Gra} (hγ : Good γ) {pn : Value} : RunF Tryz.abEnv 66 γ pn (seen γ.arcs Arc.t Arc.s) := fun h nb ok hn s hs => uw ok hγ hn hs
theorem runFrom {γ : Gra} (hγ : Good γ) {pn : Value} : RunF Tryz.abEnv 67 γ pn (seen γ.arcs Arc.s Arc.t) := fun h nb ok hn s hs => rR ok hγ hn hs
def PRow (m : Nat) (R : Nat → List Int) (i : Nat) (h : Hp) (F : List Nat) (x : List Value) : Prop := ∃ w, x = [w] ∧ aB h 1 (encI .i64) w (R i) ∧ ∀ c, ax w c → m ≤ c ∧ c ∉ F
theorem rows_ok {h0 : Hp} (ok : h0.t.Sized h0.n) {p vl ve : Value} (f1 : Fl p) (f2 : Fl vl) (f3 : Fl ve) : Ret Tryz.abEnv 65 [p, vl, ve] h0 fun v h' => Gr h0 h' ∧ ∃ b1 b2 b3, v = .func (.func 125) #[] #[ptrTo b1, ptrTo b2, ptrTo b3] ∧ h0.n ≤ b1 ∧ h0.n ≤ b2 ∧ h0.n ≤ b3 ∧ h'.load b1 0 1 = some [vl] ∧ h'.load b2 0 1 = some [ve] ∧ h'.load b3 0 1 = some [p] := by
 have S := St.init (M := NoM) ok
 refine ah (n := 8) (rs := [.tmp 6]) rfl Tryz.e65 rfl rfl rfl (lbt rfl) ?_
 simp only [BS, Nat.reduceLT]
 refine ao (fE (by first | exact aM | exact aw | exact aX | exact aT | exact bo | exact aP | exact aU | exact aK | exact aV | exact bz | assumption)) S ?_; clear S; intro h b3 S n_b3
 simp only [BS, Nat.reduceLT, Nat.reduceEqDiff, if_false]
 refine ao (fE (by first | exact aM | exact aw | exact aX | exact aT | exact bo | exact aP | exact aU | exact aK | exact aV | exact bz | assumption)) S ?_; clear S; intro h b1 S n_b1
 simp only [BS, Nat.reduceLT, Nat.reduceEqDiff, if_false]
 refine ao (fE (by first | exact aM | exact aw | exact aX | exact aT | exact bo | exact aP | exact aU | exact aK | exact aV | exact bz | assumption)) S ?_; clear S; intro h b2 S n_b2
 simp only [BS, LB, ag, Nat.reduceLT, Nat.reduceEqDiff]
 exact ⟨S.gr, b1, b2, b3, rfl, n_b1, n_b2, n_b3, S.ld m1 rfl, S.ld m0 rfl, S.ld m2 rfl⟩
theorem rows_it {hq h0 : Hp} (okq : hq.t.Sized hq.n) (ok0 : h0.t.Sized h0.n) (kq : ip hq h0) (nq : hq.n ≤ h0.n) {pn vl : Value} {γ : Gra} {nb b1 b2 b3 m : Nat} (hn : dg hq nb pn γ) {l : List Int} (hl : aB h0 1 (encI .i64) vl l) (hok : ∀ i, i < l.length → 0 ≤ l.getD i 0 ∧ l.getD i 0 < γ.nodes) (hlen : l.length < 1000) {g : FuncId} {B : List Arc} (hr : RunF Tryz.abEnv g γ pn B) (hm : m ≤ h0.n)
 (e1 : h0.load b1 0 1 = some [vl]) (e2 : h0.load b2 0 1 = some [.func (.func g) #[] #[]]) (e3 : h0.load b3 0 1 = some [pn]) :
 IterP Tryz.abEnv 125 [ptrTo b1, ptrTo b2, ptrTo b3] h0 (fun c => c = b1 ∨ c = b2 ∨ c = b3 ∨ ax vl c ∨ c < hq.n) l.length (PRow m fun i => rowD B γ.nodes (l.getD i 0).toNat) := by
 intro lb J Y h F s hj
 refine enter (n := 22) (rs := []) rfl Tryz.e125 rfl rfl rfl (lbt rfl) ?_
 have l1 := s.load ok0 e1 (.inl rfl)
 simp only [BS, LB, Nat.reduceLT, Tryz.FFtb2125, l1, hl.lenq]
 refine bE (fun (i : Nat) ρ h => i ≤ l.length ∧ ∃ F, ItS h0 (fun c => c = b1 ∨ c = b2 ∨ c = b3 ∨ ax vl c ∨ c < hq.n) h F ∧ J i h F ∧ ρ 0 = .func (.yield lb) #[] #[] ∧ ρ 2 = ptrTo b2 ∧ ρ 3 = ptrTo b3 ∧ ρ 7 = vl ∧ ρ 8 = .int .i64 l.length ∧ ρ 9 = .int .i64 i) (fun i => l.length - i) ?_ 0 _ _ ?_
 · clear l1
   intro i ih ρ h ⟨hi, F, s, hj, r0, r2, r3, r7, r8, r9⟩
   by_cases hlt : i < l.length
   · obtain ⟨c, o, hidx, hld⟩ := (s.sl ok0 hl (fun b h => .inr (.inr (.inr (.inl h))))).ix (kd := .i64) (cN .i64) hlt
     have l2 := s.load ok0 e2 (.inr (.inl rfl))
     have l3 := s.load ok0 e3 (.inr (.inr (.inl rfl)))
     have nt : dg h nb pn γ := hn.keep okq (s.keep kq nq (fun c hc => .inr (.inr (.inr (.inr hc)))))
     have w : au .i64 ((i : Int) + 1) = ((i + 1 : Nat) : Int) := by rw [wrap64] <;> omega
     have gd : l.getD i 0 = l[i] := by simp [List.getD_eq_getElem?_getD, hlt]
     have hb := hok i hlt
     rw [gd] at hb
     obtain ⟨mk, emk⟩ : ∃ k : Nat, l[i] = k := ⟨l[i].toNat, by omega⟩
     rw [emk] at hld hb
     simp only [BS, LB, Nat.reduceLT, Nat.reduceEqDiff, Tryz.FFtb2125, r0, r2, r3, r7, r8, r9, aF, hlt, hidx, hld, encI, l2, l3]
     refine step_ret (hr h nb s.ok nt mk (by omega)) ?_
     rintro v h2 ⟨g1, vD, vA, vO, D, aL, O, rfl, s1, s2, s3, t4, t5, t6, t7, t8⟩
     simp only [BS, LB, Nat.reduceLT, Nat.reduceEqDiff, Tryz.FFtb2125]
     refine tq Y (s.gr g1) (Y.gr _ _ _ _ hj g1) (i := i) hlt ⟨vD, rfl, ?_, fun c hc => ⟨?_, fun hF => ?_⟩⟩ ?_
     · have := sl_nat s1
       rw [rowD_of t5] at this
       show aB h2 1 _ vD (rowD B γ.nodes (l.getD i 0).toNat)
       rw [gd, emk]
       exact this
     · exact Nat.le_trans hm (Nat.le_trans s.n (t6 c (.inl hc)))
     · have h1 := s.lt c hF
       have h2 := t6 c (.inl hc)
       omega
     · intro h' F' a s' _ _
       simp only [BS, LB, Nat.reduceLT, Nat.reduceEqDiff, r9, w]
       exact ih (i + 1) _ _ (by omega) ⟨by omega, F', s', a, by simp [aa, r0], by simp [aa, r2, ae], by simp [aa, r3, ae], by simp [aa, r7], by simp [aa, r8], by simp [aa]⟩
   · simp only [BS, LB, Nat.reduceLT, r8, r9, aF, hlt]
     have : i = l.length := by omega
     subst this
     exact d6 (dN ⟨rfl, _, rfl, rfl, _, F, rfl, hj⟩)
 · exact ⟨by omega, F, s, hj, by simp [aa, cV], by simp [aa, cV, ae], by simp [aa, cV, ae], by simp [aa], by simp [aa], by simp [aa]⟩
theorem rV {h0 : Hp} (ok : h0.t.Sized h0.n) {g : FuncId} {post : Array Value} {D : Nat → Prop} {n m : Nat} {R : Nat → List Int} (it : IterP Tryz.abEnv g post.toList h0 D n (PRow m R)) (hm : m ≤ h0.n) (hn : n < 1000) :
 Ret Tryz.abEnv 124 [.slice none 0 0, .func (.func g) #[] post] h0 fun r h' => Gr h0 h' ∧ dI h' m r n R := by
 have S := St.init (M := NoM) ok
 refine ah (n := 13) (rs := [.tmp 4]) rfl Tryz.e124 rfl rfl rfl (lbt rfl) ?_
 simp only [BS, Nat.reduceLT]
 refine ao (fE (by first | exact aM | exact aw | exact aX | exact aT | exact bo | exact aP | exact aU | exact aK | exact aV | exact bz | assumption)) S ?_; clear S; intro h b2 S n_b2
 simp only [BS, Nat.reduceLT, Nat.reduceEqDiff, if_false]
 replace S := S.nilG (k := 1)
 have g0 := S.gr
 refine kL S (g := g) (a := #[]) (b := post) (by simp [cK, aa, bg, cv]) rfl rfl ?_
 intro h2 db lb S' hdb hlb g2
 obtain ⟨X, hX, S'⟩ : ∃ X : fg, X = _ ∧ St NoM h0 h2 [(lb, .loop X), (db, .dfr), (b2, .row [.slice none 0 0] 1)] [(.slice none 0 0, 1, [])] := ⟨_, rfl, S'⟩
 have hJ : YldP Tryz.abEnv lb (fun k h' F => ∃ (ws : List Value) (vR : Value), St NoM h0 h' [(lb, .loop X), (db, .dfr), (b2, .row [vR] 1)] [(vR, 1, ws)] ∧ ws.length = k ∧ k ≤ n ∧ (∀ i w, ws[i]? = some w → aB h' 1 (encI .i64) w (R i) ∧ ∀ c, ax w c → m ≤ c ∧ c ∉ F) ∧ F = keys [(lb, .loop X), (db, .dfr), (b2, .row [vR] 1)] [(vR, 1, ws)]) n (PRow m R) := by
  refine ⟨?_, ?_, ?_⟩
  · rintro i h F ⟨ws, vR, S, _, _, _, rfl⟩; exact ⟨S.ok, fun b hb => S.key_lt hb⟩
  · rintro i h F h' ⟨ws, vR, S, a, b, c, rfl⟩ gg; exact ⟨ws, vR, S.call gg, a, b, fun i w hw => ⟨(c i w hw).1.gr gg, (c i w hw).2⟩, rfl⟩
  · rintro i x hR F hi ⟨w, rfl, sw, hw⟩ ⟨ws, vR, S, a, b, c, rfl⟩
    subst hX
    obtain ⟨wa, wn, wc, rfl⟩ := sw.form
    have fw : Fl (.slice wa wn wc) := aw
    refine kT (S.get m0) (by rw [Tryz.e124]; rfl) rfl ?_
    have S0 := S
    replace S := S.base
    simp only [BS, LB, Nat.reduceLT, Nat.reduceEqDiff]
    refine j6 S (i := 0) rfl rfl rfl rfl rfl ?_
    clear S; intro h S
    simp only [List.set_cons_zero] at S
    simp only [BS, LB, Nat.reduceLT, Nat.reduceEqDiff, Tryz.FFtb2124, S.ld (b := b2) (o := 0) (by repeat constructor) rfl]
    refine ao (bT (by first | exact Tryz.u25 | exact Tryz.u68) (by first | exact Tryz.e2E | exact Tryz.e25E) (by decide) (by first | rfl | exact fillE )) S ?_; clear S; intro h bs S n_bs; simp only [aY, bD, an, List.cons_append, List.nil_append, List.append_nil, List.set_cons_zero, List.set_cons_succ, Nat.reduceMul, Nat.reduceAdd, Nat.zero_mul, Nat.zero_add, Nat.mul_one, Nat.one_mul] at S
    simp only [BS, LB, Nat.reduceLT, Nat.reduceEqDiff]
    have src : aH h 1 (.slice (some ⟨bs, 0, none⟩) 1 1) = some (1, [.slice wa wn wc]) := by simp only [aH]; rw [S.lds (b := bs) (o := 0) (n := 1 * 1) m0 (lbt rfl)]; rfl
    replace S := S.drop1
    refine dt (S.grow (j := 0) (m := 1) (new := [.slice wa wn wc]) rfl Tryz.u68 Tryz.e25E (by decide) Tryz.n68 src rfl (by decide) (by simp [fw.2.1]) (by simp; omega)) ?_
    clear S src; rintro h vR' S
    simp only [List.set_cons_zero] at S
    have fv : Fl vR' := by
     rcases (S.gown _ m0).1 with ⟨e, _⟩ | ⟨_, _, e, _⟩
     · rw [show vR' = _ from e]; exact aw
     · rw [show vR' = _ from e]; exact aw
    simp only [BS, LB, Nat.reduceLT, Nat.reduceEqDiff]
    refine ac (ab S (i := 2) rfl Tryz.s68 fv (Nat.lt_of_succ_le (lbt rfl)) ono) ?_
    clear S; rintro h ⟨S, _⟩
    simp only [List.set_cons_zero, List.set_cons_succ] at S
    simp only [BS]
    refine hZ S (i := 0) rfl ?_
    clear S; intro h S
    simp only [List.set_cons_zero, List.set_cons_succ] at S
    refine ⟨rfl, _, ⟨ws ++ [.slice wa wn wc], vR', S0.rebase S, by simp [a], by omega, fun j u hu => ?_, rfl⟩, S.fr, S.key_new⟩
    have key : aB h 1 (encI .i64) u (R j) ∧ ∀ c, ax u c → m ≤ c ∧ c ∉ keys [(lb, Ob.dfr), (db, .dfr), (b2, .dfr)] [(vR, 1, ws)] ∧ c < hR.n := by
     by_cases hj : j < ws.length
     · rw [List.getElem?_append_left hj] at hu
       obtain ⟨q1, q2⟩ := c j u hu
       exact ⟨q1.mo S.fr (fun x hx hM => (q2 x hx).2 hM), fun x hx => ⟨(q2 x hx).1, (q2 x hx).2, q1.lt S0.ok hx⟩⟩
     · rw [List.getElem?_append_right (by omega)] at hu
       have hj2 : j - ws.length = 0 := by
        have := (List.getElem?_eq_some_iff.1 hu).1
        simp at this; omega
       rw [hj2] at hu
       cases hu
       have : j = ws.length := by omega
       subst this
       rw [a]
       exact ⟨sw.mo S.fr (fun x hx hM => (hw x hx).2 hM), fun x hx => ⟨(hw x hx).1, (hw x hx).2, sw.lt S0.ok hx⟩⟩
    refine ⟨key.1, fun x hx => ⟨(key.2 x hx).1, fun hm => ?_⟩⟩
    rcases S.key_new x hm with h1 | h1
    · exact (key.2 x hx).2.1 h1
    · have := (key.2 x hx).2.2; omega
 refine ja (it lb _ hJ h2 _ ?_ ⟨[], _, S', rfl, Nat.zero_le _, fun i w hw => by simp at hw, rfl⟩) ?_
 · exact ⟨S'.ok, S'.fr.n, fun b hb _ => S'.gr.get b hb, fun b hb h => by have := (S'.key_own hb).elim (fun h => h) (fun h => h.elim); omega, fun b hb => S'.key_lt hb⟩
 · rintro o rc h' ⟨rfl, u, F, rfl, ws, vR, T, a, _, c, rfl⟩
   subst hX
   refine ⟨_, T.get m0, Nat.zero_ne_one, ?_⟩
   have c2 : ∀ i w, ws[i]? = some w → aB (h'.put lb .dead) 1 (encI .i64) w (R i) ∧ ∀ c, ax w c → m ≤ c ∧ c ∉ keys [(db, .dfr), (b2, .row [vR] 1)] [(vR, 1, ws)] := fun i w hw => by
    obtain ⟨q1, q2⟩ := c i w hw
    exact ⟨q1.mo ((Mo.refl (M := (· = lb)) T.ok).put (.inr rfl) .dead) (fun x hx e => (q2 x hx).2 (by rw [e]; exact m0)), fun x hx => ⟨(q2 x hx).1, fun hm => (q2 x hx).2 (List.mem_cons_of_mem _ hm)⟩⟩
   replace T := T.dead
   have S := T
   show Run _ _ _ _ _ _ _ _
   simp only [BS, LB, Nat.reduceLT, Nat.reduceEqDiff, Tryz.FFtb2124, S.ld (b := b2) (o := 0) (by repeat constructor) rfl]
   refine iL (ly [db] _ (L := [(b2, _)]) T.base fun h3 S3 => ⟨rfl, _, rfl, ?_⟩)
   refine ⟨(T.fr.trans S3.fr (fun c hc => (T.key_own hc).symm) : Mo NoM h0 h3).gr, ws, ?_, a, fun x hx => ?_, fun i w hw => ⟨(c2 i w hw).1.mo S3.fr (fun x hx hM => ((c2 i w hw).2 x hx).2 hM), fun x hx => ((c2 i w hw).2 x hx).1⟩⟩
   · exact (S3.gown _ m0).1.sl (mU ws).symm mg (by decide)
   · exact Nat.le_trans hm (((T.gblk m0 hx).1).elim (fun h => h) (fun h => h.elim))
theorem pk {h0 : Hp} (ok : h0.t.Sized h0.n) {g : FuncId} {post : Array Value} {D : Nat → Prop} {n m : Nat} {R : Nat → List Int} (it : IterP Tryz.abEnv g post.toList h0 D n (PRow m R)) (hm : m ≤ h0.n) (hn : n < 1000) :
 Ret Tryz.abEnv 64 [.func (.func g) #[] post] h0 fun r h' => Gr h0 h' ∧ dI h' m r n R := by
 have S := St.init (M := NoM) ok
 refine ah (n := 5) (rs := [.tmp 2]) rfl Tryz.e64 rfl rfl rfl (lbt rfl) ?_
 simp only [BS, LB, Nat.reduceLT, Nat.reduceEqDiff]
 refine step_ret (rV S.ok it hm hn) ?_; intro v h ⟨g, L⟩; replace S := S.call g; clear g
 simp only [BS, LB, ag, Nat.reduceLT, Nat.reduceEqDiff]
 exact ⟨S.gr, L⟩
end Go.Ab

end
section
namespace Go.Ab
open Go.Proofs
set_option maxRecDepth 10000
open Tryz in
def Tryz.FFtb320 := aj a1 <| aj s1 <| aj z1 <| aj n1 <| aj u2 <| aj a2 <| aj s2 <| aj z2 <| aj i2 <| aj u3 <| aj a3 <| aj s3 <| aj z3 <| aj i3 <| aj u4 <| aj a4 <| aj s4 <| aj z4 <| aj n4 <| aj u25 <| aj a25 <| aj s25 <| aj z25 <| aj q25 <| aj n25 <| aj a31 <| aj s31 <| aj z31 <| aj i31 <| aj n31 <| aj p31 <| aj ff31 <| aj d31 <| aj u33 <| aj a33 <| aj s33 <| aj z33 <| aj q33 <| aj i33 <| aj n33 <| aj u43 <| aj a43 <| aj s43 <| aj z43 <| aj q43 <| aj n43 <| aj u65 <| aj a65 <| aj s65 <| aj z65 <| aj q65 <| aj i65 <| aj n65 <| aj u68 <| aj a68 <| aj s68 <| aj z68 <| aj q68 <| aj n68 <| aj a124 <| aj s124 <| aj z124 <| aj n124 <| aj a126 <| aj s126 <| aj z126 <| aj n126 <| aj a128 <| aj s128 <| aj z128 <| aj i128 <| aj n128 <| aj p128 <| aj ff128 <| aj d128 <| aj u163 <| aj a163 <| aj s163 <| aj z163 <| aj q163 <| aj n163 <| aj a165 <| aj s165 <| aj z165 <| aj i165 <| aj n165 <| aj p165 <| aj ff165 <| d165
open Tryz in
def Tryz.FFtb3135 := aj a1 <| aj s1 <| aj z1 <| aj n1 <| aj u2 <| aj a2 <| aj s2 <| aj z2 <| aj i2 <| aj u3 <| aj a3 <| aj s3 <| aj z3 <| aj i3 <| aj u4 <| aj a4 <| aj s4 <| aj z4 <| aj n4 <| aj u25 <| aj a25 <| aj s25 <| aj z25 <| aj q25 <| aj n25 <| aj u43 <| aj a43 <| aj s43 <| aj z43 <| aj q43 <| aj n43 <| aj u65 <| aj a65 <| aj s65 <| aj z65 <| aj q65 <| aj i65 <| aj n65 <| aj u68 <| aj a68 <| aj s68 <| aj z68 <| aj q68 <| aj n68 <| aj a128 <| aj s128 <| aj z128 <| aj i128 <| aj n128 <| aj p128 <| aj ff128 <| d128
open Tryz in
def Tryz.FFtb374 := aj a1 <| aj s1 <| aj z1 <| aj n1 <| aj u2 <| aj a2 <| aj s2 <| aj z2 <| aj i2 <| aj u3 <| aj a3 <| aj s3 <| aj z3 <| aj i3 <| aj u4 <| aj a4 <| aj s4 <| aj z4 <| aj n4 <| aj u25 <| aj a25 <| aj s25 <| aj z25 <| aj q25 <| aj n25 <| aj u43 <| aj a43 <| aj s43 <| aj z43 <| aj q43 <| aj n43 <| aj u65 <| aj a65 <| aj s65 <| aj z65 <| aj q65 <| aj i65 <| aj n65 <| aj u68 <| aj a68 <| aj s68 <| aj z68 <| aj q68 <| aj n68 <| aj a128 <| aj s128 <| aj z128 <| aj i128 <| aj n128 <| aj p128 <| aj ff128 <| d128
open Tryz in
def Tryz.FFtb3137 := aj a1 <| aj s1 <| aj z1 <| aj n1 <| aj u2 <| aj a2 <| aj s2 <| aj z2 <| aj i2 <| aj u3 <| aj a3 <| aj s3 <| aj z3 <| aj i3 <| aj u25 <| aj a25 <| aj s25 <| aj z25 <| aj q25 <| aj n25 <| aj u43 <| aj a43 <| aj s43 <| aj z43 <| aj q43 <| aj n43 <| aj u65 <| aj a65 <| aj s65 <| aj z65 <| aj q65 <| aj i65 <| aj n65 <| aj u68 <| aj a68 <| aj s68 <| aj z68 <| aj q68 <| aj n68 <| aj a128 <| aj s128 <| aj z128 <| aj i128 <| aj n128 <| aj p128 <| aj ff128 <| d128
open Tryz in
def Tryz.FFtb3140 := aj a1 <| aj s1 <| aj z1 <| aj n1 <| aj u2 <| aj a2 <| aj s2 <| aj z2 <| aj i2 <| aj u3 <| aj a3 <| aj s3 <| aj z3 <| aj i3 <| aj u25 <| aj a25 <| aj s25 <| aj z25 <| aj q25 <| aj n25 <| aj u43 <| aj a43 <| aj s43 <| aj z43 <| aj q43 <| aj n43 <| aj u65 <| aj a65 <| aj s65 <| aj z65 <| aj q65 <| aj i65 <| aj n65 <| aj u68 <| aj a68 <| aj s68 <| aj z68 <| aj q68 <| aj n68 <| aj a128 <| aj s128 <| aj z128 <| aj i128 <| aj n128 <| aj p128 <| aj ff128 <| d128
open Tryz in
def Tryz.FFtb3136 := aj a1 <| aj s1 <| aj z1 <| aj n1 <| aj u2 <| aj a2 <| aj s2 <| aj z2 <| aj i2 <| aj u3 <| aj a3 <| aj s3 <| aj z3 <| aj i3 <| aj u4 <| aj a4 <| aj s4 <| aj z4 <| aj n4 <| aj u25 <| aj a25 <| aj s25 <| aj z25 <| aj q25 <| aj n25 <| aj u43 <| aj a43 <| aj s43 <| aj z43 <| aj q43 <| aj n43 <| aj u65 <| aj a65 <| aj s65 <| aj z65 <| aj q65 <| aj i65 <| aj n65 <| aj u68 <| aj a68 <| aj s68 <| aj z68 <| aj q68 <| aj n68 <| aj a128 <| aj s128 <| aj z128 <| aj i128 <| aj n128 <| aj p128 <| aj ff128 <| aj d128 <| aj a203 <| aj s203 <| aj z203 <| n203
noncomputable def toR (γ : Gra) (l : List Int) (i : Nat) : List Int := rowD (seen γ.arcs Arc.t Arc.s) γ.nodes (l.getD i 0).toNat
noncomputable def frR (γ : Gra) (l : List Int) (i : Nat) : List Int := rowD (seen γ.arcs Arc.s Arc.t) γ.nodes (l.getD i 0).toNat
theorem tabOf_ok {h0 : Hp} (ok : h0.t.Sized h0.n) {γ : Gra} (hγ : Good γ) {pn vl : Value} {nb : Nat} (hn : dg h0 nb pn γ) {l : List Int} (hl : aB h0 1 (encI .i64) vl l) (hlen : l.length < 1000) :
 Ret Tryz.abEnv 20 [pn, vl] h0 fun r h' => Gr h0 h' ∧ ((¬ fD γ.nodes l ∧ r = .pointer none) ∨ (fD γ.nodes l ∧ TabAt h' h0.n r γ.nodes l (toR γ l) (frR γ l))) := by
 have S := St.init (M := NoM) ok
 obtain ⟨bp, rfl⟩ : ∃ b, pn = ptrTo b := by obtain ⟨b, _, _, _, _, _, e, _⟩ := hn.ex; exact ⟨b, e⟩
 refine ah (n := 28) (rs := [.tmp 4]) rfl Tryz.e20 rfl rfl rfl (lbt rfl) ?_
 simp only [BS, LB, Nat.reduceLT, Nat.reduceEqDiff, Tryz.FFtb320]
 refine ar (gG S.ok (hn.gr S.gr)) ?_; intro h g; replace S := S.call g; clear g
 simp only [BS, LB, Nat.reduceLT, Nat.reduceEqDiff]
 refine ar (may_ok S.ok (hl.gr S.gr) (by omega)) ?_; intro h g; replace S := S.call g; clear g
 by_cases hm : fD γ.nodes l
 · have hd : decide (fD γ.nodes l) = true := decide_eq_true hm
   simp only [BS, LB, Nat.reduceLT, Nat.reduceEqDiff, hd]
   refine ar (gG S.ok (hn.gr S.gr)) ?_; intro h g; replace S := S.call g; clear g
   simp only [BS, LB, Nat.reduceLT, Nat.reduceEqDiff]
   have k1 := S.fr.n
   refine step_ret (iA S.ok (cN .i64) (hl.gr S.gr) (by omega)) ?_; intro v h ⟨g, slM, hM⟩; replace S := S.call g; clear g
   rename Value => vM
   obtain ⟨ma, mn, mc, rfl⟩ := slM.form
   simp only [BS, LB, Nat.reduceLT, Nat.reduceEqDiff]
   refine step_ret (rows_ok S.ok aX hl.fl aP) ?_; intro v h ⟨g, b1, b2, b3, e, q1, q2, q3, y1, y2, y3⟩; replace S := S.call g; replace slM := slM.gr g; clear g
   subst e
   simp only [BS, LB, Nat.reduceLT, Nat.reduceEqDiff]
   have it := rows_it ok S.ok S.gr.keep S.fr.n hn (hl.gr S.gr) (fun i hi => ⟨(hm.2 i hi).1, (hm.2 i hi).2.1⟩) hlen (runTo hγ) (m := h0.n) S.fr.n y1 y2 y3
   refine step_ret (pk S.ok it S.fr.n hlen) ?_; intro v h ⟨g, L1⟩; replace S := S.call g; replace slM := slM.gr g; clear g
   rename Value => vT
   obtain ⟨ta, tn, tc, rfl⟩ : ∃ a n c, vT = .slice a n c := by obtain ⟨_, s, _⟩ := L1; exact s.form
   clear it y1 y2 y3 q1 q2 q3
   simp only [BS, LB, Nat.reduceLT, Nat.reduceEqDiff]
   refine step_ret (rows_ok S.ok aX hl.fl aP) ?_; intro v h ⟨g, b1, b2, b3, e, q1, q2, q3, y1, y2, y3⟩; replace S := S.call g; replace slM := slM.gr g; replace L1 := L1.gr g; clear g
   subst e
   simp only [BS, LB, Nat.reduceLT, Nat.reduceEqDiff]
   have it := rows_it ok S.ok S.gr.keep S.fr.n hn (hl.gr S.gr) (fun i hi => ⟨(hm.2 i hi).1, (hm.2 i hi).2.1⟩) hlen (runFrom hγ) (m := h0.n) S.fr.n y1 y2 y3
   refine step_ret (pk S.ok it S.fr.n hlen) ?_; intro v h ⟨g, L2⟩; replace S := S.call g; replace slM := slM.gr g; replace L1 := L1.gr g; clear g
   rename Value => vF
   obtain ⟨fa, fn, fc, rfl⟩ : ∃ a n c, vF = .slice a n c := by obtain ⟨_, s, _⟩ := L2; exact s.form
   simp only [BS, LB, Nat.reduceLT, Nat.reduceEqDiff, Nat.reduceAdd, Tryz.FFtb320]
   have Sb := S
   replace S := S.base
   refine ao (bS (by intro x e; cases e)) S ?_; clear S; intro h b S n_b; simp only [an] at S
   simp only [BS, LB, ag, Nat.reduceLT, Nat.reduceEqDiff]
   have f2 := S.fr
   have slM2 := slM.mo f2 (fun c _ hm => by cases hm)
   have L1' := L1.mo f2 (fun c hm => by cases hm)
   have L2' := L2.mo f2 (fun c hm => by cases hm)
   have hMt := S.row (b := b) m0
   replace S := Sb.rebase S
   exact ⟨S.gr, .inr ⟨hm, ⟨b, _, _, _, rfl, hMt, slM2, L1', L2', (S.own _ m0).1.elim (fun h => h) (fun h => h.elim), fun c hc => Nat.le_trans k1 (hM c hc)⟩⟩⟩
 · have hd : decide (fD γ.nodes l) = false := decide_eq_false hm
   simp only [BS, LB, ag, Nat.reduceLT, Nat.reduceEqDiff, hd]
   exact ⟨S.gr, .inl hm⟩
theorem sX {h0 : Hp} (ok : h0.t.Sized h0.n) {m N : Nat} {p : Value} {l : List Int} {R Q : Nat → List Int} (t : TabAt h0 m p N l R Q) : bQ Tryz.abEnv 135 [p] h0 (.int .i64 N) := by
 have S := St.init (M := NoM) ok
 obtain ⟨b, vM, vT, vF, rfl, hr, _⟩ := t.ex
 have l0 := hr.load1 (o := 0) rfl
 refine ah (n := 9) (rs := [.tmp 2]) rfl Tryz.e135 rfl rfl rfl (lbt rfl) ?_
 simp only [BS, LB, ag, Nat.reduceLT, Nat.reduceEqDiff, Tryz.FFtb3135, l0]
 exact S.gr
theorem kX {h0 : Hp} (ok : h0.t.Sized h0.n) {m N : Nat} {p : Value} {l : List Int} {R Q : Nat → List Int} (t : TabAt h0 m p N l R Q) (hlen : l.length < 1000) : Ret Tryz.abEnv 74 [p] h0 fun r h' => Gr h0 h' ∧ aB h' 1 (encI .i64) r l ∧ ∀ c, ax r c → h0.n ≤ c := by
 have S := St.init (M := NoM) ok
 obtain ⟨b, vM, vT, vF, rfl, hr, sM, _⟩ := t.ex
 have l0 := hr.load1 (o := 1) rfl
 refine ah (n := 10) (rs := [.tmp 2]) rfl Tryz.e74 rfl rfl rfl (lbt rfl) ?_
 simp only [BS, LB, Nat.reduceLT, Nat.reduceEqDiff, Tryz.FFtb374, l0]
 refine step_ret (iA S.ok (cN .i64) sM (by omega)) ?_; intro v h ⟨g, sl, hc⟩; replace S := S.call g; clear g
 simp only [BS, LB, ag, Nat.reduceLT, Nat.reduceEqDiff]
 exact ⟨S.gr, sl, hc⟩
def ff (N n : Nat) (R : Nat → List Int) (i v : Int) : Int := if 0 ≤ i ∧ i < n ∧ 0 ≤ v ∧ v < N then (R i.toNat).getD v.toNat 0 else 72057594037927936
theorem tos_ok {h0 : Hp} (ok : h0.t.Sized h0.n) {m N : Nat} {p : Value} {l : List Int} {R Q : Nat → List Int} (t : TabAt h0 m p N l R Q) : Ret Tryz.abEnv 137 [p] h0 fun r h' => Gr h0 h' ∧ dI h' m r l.length R := by
 have S := St.init (M := NoM) ok
 obtain ⟨b, vM, vT, vF, rfl, hr, _, L, _⟩ := t.ex
 have l0 := hr.load1 (o := 2) rfl
 refine ah (n := 7) (rs := [.tmp 2]) rfl Tryz.e137 rfl rfl rfl (lbt rfl) ?_
 simp only [BS, LB, ag, Nat.reduceLT, Nat.reduceEqDiff, Tryz.FFtb3137, l0]
 exact ⟨S.gr, L⟩
theorem froms_ok {h0 : Hp} (ok : h0.t.Sized h0.n) {m N : Nat} {p : Value} {l : List Int} {R Q : Nat → List Int} (t : TabAt h0 m p N l R Q) : Ret Tryz.abEnv 140 [p] h0 fun r h' => Gr h0 h' ∧ dI h' m r l.length Q := by
 have S := St.init (M := NoM) ok
 obtain ⟨b, vM, vT, vF, rfl, hr, _, _, L, _⟩ := t.ex
 have l0 := hr.load1 (o := 3) rfl
 refine ah (n := 7) (rs := [.tmp 2]) rfl Tryz.e140 rfl rfl rfl (lbt rfl) ?_
 simp only [BS, LB, ag, Nat.reduceLT, Nat.reduceEqDiff, Tryz.FFtb3140, l0]
 exact ⟨S.gr, L⟩
theorem rA {h0 : Hp} (ok : h0.t.Sized h0.n) {m N : Nat} {p : Value} {l : List Int} {R Q W : Nat → List Int} (t : TabAt h0 m p N l R Q) {g : FuncId} (hg : ∀ h, Gr h0 h → Ret Tryz.abEnv g [p] h fun r h' => Gr h h' ∧ dI h' m r l.length W) (hW : ∀ i, i < l.length → (W i).length = N) {i v : Int} :
 bQ Tryz.abEnv 136 [p, .func (.func g) #[p] #[], .int .i64 i, .int .i64 v] h0 (.int .i64 (ff N l.length W i v)) := by
 have S := St.init (M := NoM) ok
 obtain ⟨b, vM, vT, vF, rfl, hr, sM, _⟩ := t.ex
 have l0 := hr.load1 (o := 0) rfl
 have l1 := hr.load1 (o := 1) rfl
 unfold ff
 refine ah (n := 44) (rs := [.tmp 8]) rfl Tryz.e136 rfl rfl rfl (lbt rfl) ?_
 by_cases c1 : i < 0
 · rw [if_neg (by omega)]
   simp only [BS, LB, ag, Nat.reduceLT, Nat.reduceEqDiff, Tryz.FFtb3136, c1]
   exact S.gr
 · by_cases c2 : (l.length : Int) ≤ i
   · rw [if_neg (by omega)]
     simp only [BS, LB, ag, Nat.reduceLT, Nat.reduceEqDiff, Tryz.FFtb3136, l1, c1, c2, sM.lenq]
     exact S.gr
   · by_cases c3 : v < 0
     · rw [if_neg (by omega)]
       simp only [BS, LB, ag, Nat.reduceLT, Nat.reduceEqDiff, Tryz.FFtb3136, l1, c1, c2, c3, sM.lenq]
       exact S.gr
     · by_cases c4 : (N : Int) ≤ v
       · rw [if_neg (by omega)]
         simp only [BS, LB, ag, Nat.reduceLT, Nat.reduceEqDiff, Tryz.FFtb3136, l0, l1, c1, c2, c3, c4, sM.lenq]
         exact S.gr
       · rw [if_pos (by omega)]
         obtain ⟨i', rfl⟩ := Int.eq_ofNat_of_zero_le (show 0 ≤ i by omega)
         obtain ⟨v', rfl⟩ := Int.eq_ofNat_of_zero_le (show 0 ≤ v by omega)
         simp only [BS, LB, Nat.reduceLT, Nat.reduceEqDiff, Tryz.FFtb3136, l0, l1, c1, c2, c3, c4, sM.lenq]
         refine step_ret (hg _ S.gr) ?_; intro v h ⟨g, L⟩; replace S := S.call g; clear g
         obtain ⟨w, ⟨c, o, x1, x2⟩, sw, _⟩ := L.row (i := i') (by omega)
         have hlw := hW i' (by omega)
         obtain ⟨c', o', y1, y2⟩ := sw.ix (kd := .i64) (cN .i64) (i := v') (by omega)
         have gd : (W i').getD v' 0 = (W i')[v'] := by simp [List.getD_eq_getElem?_getD, show v' < (W i').length by omega]
         simp only [BS, LB, ag, Nat.reduceLT, Nat.reduceEqDiff, Tryz.FFtb3136, x1, x2, y1, y2, encI, Int.toNat_natCast, gd]
         exact S.gr
theorem rt {h0 : Hp} (ok : h0.t.Sized h0.n) {m N : Nat} {p : Value} {l : List Int} {R Q : Nat → List Int} (t : TabAt h0 m p N l R Q) (hW : ∀ i, i < l.length → (R i).length = N) {i v : Int} : bQ Tryz.abEnv 80 [p, .int .i64 i, .int .i64 v] h0 (.int .i64 (ff N l.length R i v)) := by
 have S := St.init (M := NoM) ok
 refine ah (n := 13) (rs := [.tmp 6]) rfl Tryz.e80 rfl rfl rfl (lbt rfl) ?_
 simp only [BS, LB, Nat.reduceLT, Nat.reduceEqDiff]
 refine ar (rA S.ok t (fun h g => tos_ok g.ok (t.gr g)) hW) ?_; intro h g; replace S := S.call g; clear g
 simp only [BS, LB, ag, Nat.reduceLT, Nat.reduceEqDiff]
 exact S.gr
theorem pg {h0 : Hp} (ok : h0.t.Sized h0.n) {m N : Nat} {p : Value} {l : List Int} {R Q : Nat → List Int} (t : TabAt h0 m p N l R Q) (hW : ∀ i, i < l.length → (Q i).length = N) {i v : Int} : bQ Tryz.abEnv 82 [p, .int .i64 i, .int .i64 v] h0 (.int .i64 (ff N l.length Q i v)) := by
 have S := St.init (M := NoM) ok
 refine ah (n := 13) (rs := [.tmp 6]) rfl Tryz.e82 rfl rfl rfl (lbt rfl) ?_
 simp only [BS, LB, Nat.reduceLT, Nat.reduceEqDiff]
 refine ar (rA S.ok t (fun h g => froms_ok g.ok (t.gr g)) hW) ?_; intro h g; replace S := S.call g; clear g
 simp only [BS, LB, ag, Nat.reduceLT, Nat.reduceEqDiff]
 exact S.gr
end Go.Ab

end
section
namespace Go.Ab
open Go.Proofs
set_option maxRecDepth 10000
open Tryz in
def Tryz.FFtb5106 := aj a1 <| aj s1 <| aj z1 <| aj n1 <| aj u2 <| aj a2 <| aj s2 <| aj z2 <| aj i2 <| aj u3 <| aj a3 <| aj s3 <| aj z3 <| aj i3 <| aj u4 <| aj a4 <| aj s4 <| aj z4 <| aj n4 <| aj u25 <| aj a25 <| aj s25 <| aj z25 <| aj q25 <| n25
open Tryz in
def Tryz.FFtb573 := aj a1 <| aj s1 <| aj z1 <| aj n1 <| aj u2 <| aj a2 <| aj s2 <| aj z2 <| aj i2 <| aj u3 <| aj a3 <| aj s3 <| aj z3 <| aj i3 <| aj u4 <| aj a4 <| aj s4 <| aj z4 <| aj n4 <| aj u5 <| aj a5 <| aj s5 <| aj z5 <| aj i5 <| aj u6 <| aj a6 <| aj s6 <| aj z6 <| aj i6 <| aj u25 <| aj a25 <| aj s25 <| aj z25 <| aj q25 <| aj n25 <| aj u68 <| aj a68 <| aj s68 <| aj z68 <| aj q68 <| n68
def Sep (ws : List Value) : Prop := ∀ (i j : Nat) (w u : Value) (c : Nat), ws[i]? = some w → ws[j]? = some u → i ≠ j → ax w c → ¬ ax u c
theorem mj {α : Type} {l : List α} {x u : α} {j : Nat} (h : (l ++ [x])[j]? = some u) : l[j]? = some u ∨ (j = l.length ∧ u = x) := by
 by_cases hj : j < l.length
 · rw [List.getElem?_append_left hj] at h; exact .inl h
 · rw [List.getElem?_append_right (by omega)] at h
   have hj2 : j - l.length = 0 := by
    have := (List.getElem?_eq_some_iff.1 h).1
    simp at this; omega
   rw [hj2] at h
   cases h
   exact .inr ⟨by omega, rfl⟩
theorem Sep.push {ws : List Value} {y : Value} (s : Sep ws) (h : ∀ (j : Nat) u, ws[j]? = some u → ∀ c, ax u c → ¬ ax y c) : Sep (ws ++ [y]) := by
 intro i j w u c hi hj ne hw hu
 rcases mj hi with hi | ⟨e1, e2⟩ <;> rcases mj hj with hj | ⟨e3, e4⟩
 · exact s i j w u c hi hj ne hw hu
 · rw [e4] at hu; exact h i w hi c hw hu
 · rw [e2] at hw; exact h j u hj c hu hw
 · exact ne (e1.trans e3.symm)
def WrI (h : Hp) (w : Value) (l : List Int) : Prop := aB h 1 (encI .i64) w l ∧ (l ≠ [] → ∃ b, w = .slice (some ⟨b, 0, some 1⟩) l.length l.length ∧ Row h b (ints l) 1)
theorem WrI.mo {M : Nat → Prop} {h h' : Hp} {w : Value} {l : List Int} (r : WrI h w l) (g : Mo M h h') (hm : ∀ b, ax w b → ¬ M b) : WrI h' w l :=
 ⟨r.1.mo g hm, fun hl => by obtain ⟨b, e, k⟩ := r.2 hl; exact ⟨b, e, g.has (o := .row _ 1) k (hm b (by rw [e]; rfl))⟩⟩
theorem WrI.gr {h h' : Hp} {w : Value} {l : List Int} (r : WrI h w l) (g : Gr h h') : WrI h' w l := r.mo (M := NoM) g.fr (fun _ _ h => h)
theorem tu {h0 : Hp} (ok : h0.t.Sized h0.n) {v : Value} {xs : List Int} (hs : aB h0 1 (encI .i64) v xs) (hl : xs.length < 1000000) : Ret Tryz.abEnv 106 [v] h0 fun r h' => Gr h0 h' ∧ WrI h' r xs ∧ ∀ c, ax r c → h0.n ≤ c := by
 have S := St.init (M := NoM) ok
 by_cases hx : xs = []
 · obtain ⟨r, h', e1, g, sl, hc⟩ := mb ok hs hl
   exact ⟨r, h', e1, g, ⟨sl, fun h => absurd hx h⟩, hc⟩
 rcases hs with ⟨rfl, rfl⟩ | ⟨b, o, s, c, rfl, h2, h3⟩
 · exact absurd rfl hx
 · refine ah (n := 8) (rs := [.tmp 2]) rfl Tryz.e106 rfl rfl rfl (lbt rfl) ?_
   simp only [BS, LB, Nat.reduceLT, Nat.reduceEqDiff, Tryz.FFtb5106]
   refine ao (bT (by first | exact Tryz.u25) (by first | exact Tryz.e2E) (by decide) (by first | rfl | exact fillE )) S ?_; clear S; intro h bb S n_bb; simp only [aY, bD, an, List.cons_append, List.nil_append, List.append_nil, List.set_cons_zero, List.set_cons_succ, Nat.reduceMul, Nat.reduceAdd, Nat.zero_mul, Nat.zero_add, Nat.mul_one, Nat.one_mul] at S
   simp only [BS, LB, Nat.reduceLT, Nat.reduceEqDiff]
   have hs' : aB h 1 (encI .i64) (.slice (some ⟨b, o, s⟩) xs.length c) xs := .inr ⟨b, o, s, c, rfl, h2, S.old h3 (fun h => h)⟩
   refine dt (S.clone (n := 0) (vs := []) Tryz.u25 Tryz.e2E (by decide) Tryz.n25 hs'.src (aZ (cN .i64) xs).symm rfl (by decide) (by rw [aZ (cN .i64)]; simp; omega) (S.row m0)) ?_
   rintro h' v (⟨e, _⟩ | ⟨b', rfl, S'⟩)
   · exact absurd (List.length_eq_zero_iff.1 e) hx
   simp only [BS, LB, ag, Nat.reduceLT, Nat.reduceEqDiff]
   have row : Row h' b' (ints xs) 1 := S'.row m0
   have nb : h0.n ≤ b' := (S'.own _ m0).1.elim (fun h => h) (fun h => h.elim)
   refine ⟨S'.gr, ⟨.inr ⟨b', 0, some 1, xs.length, rfl, Nat.le_refl _, ?_⟩, fun _ => ⟨b', rfl, row⟩⟩, fun c hc => ?_⟩
   · rw [row.load (by rw [cb]; omega), List.drop_zero, Nat.mul_one, ← cb xs, List.take_length]; rfl
   · obtain rfl : b' = c := hc
     exact nb
def LLD (h : Hp) (m k : Nat) (v : Value) (n : Nat) (R : Nat → List Int) : Prop :=
 ∃ ws : List Value, aB h 1 encV v ws ∧ ws.length = n ∧ (∀ c, ax v c → m ≤ c ∧ c < k) ∧ (∀ (i : Nat) w, ws[i]? = some w → WrI h w (R i) ∧ ∀ c, ax w c → m ≤ c ∧ c < k ∧ ¬ ax v c) ∧ Sep ws
theorem LLD.ll {h : Hp} {m k n : Nat} {v : Value} {R : Nat → List Int} (r : LLD h m k v n R) : dI h m v n R := by
 obtain ⟨ws, a, b, c, d, _⟩ := r
 exact ⟨ws, a, b, fun x hx => (c x hx).1, fun i w hw => ⟨(d i w hw).1.1, fun x hx => ((d i w hw).2 x hx).1⟩⟩
theorem LLD.mo {M : Nat → Prop} {h h' : Hp} {m k n : Nat} {v : Value} {R : Nat → List Int} (r : LLD h m k v n R) (g : Mo M h h') (hm : ∀ b, M b → b < m ∨ k ≤ b) : LLD h' m k v n R := by
 obtain ⟨ws, a, b, c, d, e⟩ := r
 exact ⟨ws, a.mo g (fun x hx hM => by have := c x hx; have := hm x hM; omega), b, c, fun i w hw => ⟨(d i w hw).1.mo g (fun x hx hM => by have h1 := (d i w hw).2 x hx; have h2 := h1.1; have h3 := h1.2.1; have := hm x hM; omega), (d i w hw).2⟩, e⟩
theorem LLD.gr {h h' : Hp} {m k n : Nat} {v : Value} {R : Nat → List Int} (r : LLD h m k v n R) (g : Gr h h') : LLD h' m k v n R := r.mo (M := NoM) g.fr (fun _ h => h.elim)
theorem LLD.form {h : Hp} {m k n : Nat} {v : Value} {R : Nat → List Int} (r : LLD h m k v n R) : ∃ a n c, v = .slice a n c := by
 obtain ⟨_, s, _⟩ := r
 rcases s with ⟨rfl, _⟩ | ⟨b, o, s, c, rfl, _⟩ <;> exact ⟨_, _, _, rfl⟩
theorem mem_gkey {M : Nat → Prop} {h0 h : Hp} {v : Value} {ws : List Value} {k : Nat} (S : St M h0 h [] [(v, k, ws)]) {c : Nat} (hb : ax v c) : c ∈ keys [] [(v, k, ws)] := by
 have hk : dY (v, k, ws) = some c := by
  rcases (S.gown (v, k, ws) (List.mem_singleton.2 rfl)).1 with ⟨e, _⟩ | ⟨b, n, e, _⟩
  · rw [show v = _ from e] at hb; exact hb.elim
  · have e' : v = .slice (some ⟨b, 0, some k⟩) n n := e
    rw [e'] at hb ⊢
    exact congrArg some hb
 exact List.mem_filterMap.2 ⟨_, List.mem_singleton.2 rfl, hk⟩
theorem qC {h0 : Hp} (ok : h0.t.Sized h0.n) {v : Value} {m n : Nat} {R : Nat → List Int} (hs : dI h0 m v n R) (hn : n < 1000) (hR : ∀ i, i < n → (R i).length < 1000000) :
 Ret Tryz.abEnv 73 [v] h0 fun r h' => Gr h0 h' ∧ LLD h' h0.n h'.n r n R := by
 have S := St.init (M := NoM) ok
 refine ah (n := 18) (rs := [.tmp 2]) rfl Tryz.e73 rfl rfl rfl (lbt rfl) ?_
 simp only [BS, LB, Nat.reduceLT, Nat.reduceEqDiff, Tryz.FFtb573, hs.lenq]
 replace S := S.nilG (k := 1)
 refine bE (fun (i : Nat) ρ h => i ≤ n ∧ ∃ (ws : List Value) (vR : Value), St NoM h0 h [] [(vR, 1, ws)] ∧ ws.length = i ∧ (∀ j w, ws[j]? = some w → WrI h w (R j) ∧ ∀ c, ax w c → h0.n ≤ c ∧ c ∉ keys [] [(vR, 1, ws)]) ∧ Sep ws ∧ ρ 2 = vR ∧ ρ 5 = v ∧ ρ 6 = .int .i64 n ∧ ρ 7 = .int .i64 i) (fun i => n - i) ?_ 0 _ _ ?_
 · clear S
   intro i ih ρ h ⟨hi, ws, vR, S, hw, hc, hd, r2, r5, r6, r7⟩
   have fvR : Fl vR := by
    rcases (S.gown _ m0).1 with ⟨e, _⟩ | ⟨_, _, e, _⟩
    · rw [show vR = _ from e]; exact aw
    · rw [show vR = _ from e]; exact aw
   by_cases hlt : i < n
   · obtain ⟨x, ⟨q, o, hidx, hld⟩, hx, _⟩ := (hs.gr S.gr).row hlt
     have fx := hx.fl
     have w : au .i64 ((i : Int) + 1) = ((i + 1 : Nat) : Int) := by rw [wrap64] <;> omega
     simp only [BS, LB, Nat.reduceLT, Nat.reduceEqDiff, Tryz.FFtb573, r2, r5, r6, r7, aF, hlt, hidx, hld]
     have S0 := S
     refine step_ret (tu S.ok hx (hR i hlt)) ?_
     rintro y h1 ⟨g, sy, ny⟩
     have S1 := S.call g
     obtain ⟨ya, yn, yc, rfl⟩ := sy.1.form
     have fy : Fl (.slice ya yn yc) := aw
     have old : ∀ (j : Nat) u, (ws ++ [.slice ya yn yc])[j]? = some u → WrI h1 u (R j) ∧ ∀ c, ax u c → h0.n ≤ c ∧ c ∉ keys [] [(vR, 1, ws)] ∧ c < h1.n := fun j u hu => by
      rcases mj hu with hu | ⟨rfl, rfl⟩
      · obtain ⟨q1, q2⟩ := hc j u hu
        exact ⟨q1.gr g, fun c hb => ⟨(q2 c hb).1, (q2 c hb).2, (q1.gr g).1.lt S1.ok hb⟩⟩
      · rw [hw]
        exact ⟨sy, fun c hb => ⟨Nat.le_trans S0.fr.n (ny c hb), fun hk => by have := S0.key_lt hk; have := ny c hb; omega, sy.1.lt S1.ok hb⟩⟩
     have sep := hd.push (y := .slice ya yn yc) fun j u hu c hb hy => by
      have := (hc j u hu).1.1.lt S0.ok hb
      have := ny c hy
      omega
     replace S := S1.base
     simp only [BS, LB, Nat.reduceLT, Nat.reduceEqDiff]
     refine ao (bT (by first | exact Tryz.u25 | exact Tryz.u68) (by first | exact Tryz.e2E | exact Tryz.e25E) (by decide) (by first | rfl | exact fillE )) S ?_; clear S; intro h bs S n_bs; simp only [aY, bD, an, List.cons_append, List.nil_append, List.append_nil, List.set_cons_zero, List.set_cons_succ, Nat.reduceMul, Nat.reduceAdd, Nat.zero_mul, Nat.zero_add, Nat.mul_one, Nat.one_mul] at S
     simp only [BS, LB, Nat.reduceLT, Nat.reduceEqDiff]
     have src : aH h 1 (.slice (some ⟨bs, 0, none⟩) 1 1) = some (1, [.slice ya yn yc]) := by simp only [aH]; rw [S.lds (b := bs) (o := 0) (n := 1 * 1) m0 (lbt rfl)]; rfl
     replace S := S.drop1
     refine dt (S.grow (j := 0) (m := 1) (new := [.slice ya yn yc]) rfl Tryz.u68 Tryz.e25E (by decide) Tryz.n68 src rfl (by decide) (by simp [fy.2.1]) (by simp; omega)) ?_
     clear S src; rintro h vR' S
     simp only [List.set_cons_zero] at S
     have fv : Fl vR' := by
      rcases (S.gown _ m0).1 with ⟨e, _⟩ | ⟨_, _, e, _⟩
      · rw [show vR' = _ from e]; exact aw
      · rw [show vR' = _ from e]; exact aw
     simp only [BS, LB, Nat.reduceLT, Nat.reduceEqDiff, r7, w]
     refine ih (i + 1) _ _ (by omega) ⟨by omega, ws ++ [.slice ya yn yc], vR', S1.rebase S, by simp [hw], fun j u hu => ⟨(old j u hu).1.mo S.fr (fun c hb => ((old j u hu).2 c hb).2.1), fun c hb => ⟨((old j u hu).2 c hb).1, fun hk => ?_⟩⟩, sep, by simp [aa], by simp [aa, r5], by simp [aa, r6], by simp [aa]⟩
     rcases S.key_new c hk with h2 | h2
     · exact ((old j u hu).2 c hb).2.1 h2
     · have := ((old j u hu).2 c hb).2.2; omega
   · simp only [BS, LB, ag, Nat.reduceLT, Nat.reduceEqDiff, r2, r6, r7, aF, hlt]
     have sl := (S.gown _ m0).1.sl (mU ws).symm mg (by decide)
     refine ⟨S.gr, ws, sl, by omega, fun c hb => ⟨((S.gblk m0 hb).1).elim (fun h => h) (fun h => h.elim), sl.lt S.ok hb⟩, fun j u hu => ⟨(hc j u hu).1, fun c hb => ⟨((hc j u hu).2 c hb).1, (hc j u hu).1.1.lt S.ok hb, fun hv => ((hc j u hu).2 c hb).2 ?_⟩⟩, hd⟩
     exact mem_gkey S hv
 · exact ⟨Nat.zero_le _, [], _, S, rfl, fun j w hw => by simp at hw, fun i j w u c hw => by simp at hw, by simp [aa], by simp [aa, bg], by simp [aa], by simp [aa]⟩
end Go.Ab

end
section
namespace Go.Ab
open Go.Proofs
set_option maxRecDepth 10000
open Tryz in
def Tryz.FFtb6131 := aj a1 <| aj s1 <| aj z1 <| aj n1 <| aj u2 <| aj a2 <| aj s2 <| aj z2 <| aj i2 <| aj u3 <| aj a3 <| aj s3 <| aj z3 <| aj i3 <| aj u4 <| aj a4 <| aj s4 <| aj z4 <| aj n4 <| aj u5 <| aj a5 <| aj s5 <| aj z5 <| aj i5 <| aj u6 <| aj a6 <| aj s6 <| aj z6 <| aj i6 <| aj a7 <| aj s7 <| aj z7 <| aj i7 <| aj n7 <| aj p7 <| aj ff7 <| aj d7 <| aj u25 <| aj a25 <| aj s25 <| aj z25 <| aj q25 <| aj n25 <| aj a130 <| aj s130 <| aj z130 <| n130
open Tryz in
def Tryz.FFtb668 := aj a1 <| aj s1 <| aj z1 <| aj n1 <| aj u2 <| aj a2 <| aj s2 <| aj z2 <| aj i2 <| aj u3 <| aj a3 <| aj s3 <| aj z3 <| aj i3 <| aj u4 <| aj a4 <| aj s4 <| aj z4 <| aj n4 <| aj u25 <| aj a25 <| aj s25 <| aj z25 <| aj q25 <| aj n25 <| aj a130 <| aj s130 <| aj z130 <| n130
open Tryz in
def Tryz.FFtb6132 := aj a1 <| aj s1 <| aj z1 <| aj n1 <| aj u2 <| aj a2 <| aj s2 <| aj z2 <| aj i2 <| aj u3 <| aj a3 <| aj s3 <| aj z3 <| aj i3 <| aj u4 <| aj a4 <| aj s4 <| aj z4 <| aj n4 <| aj u5 <| aj a5 <| aj s5 <| aj z5 <| aj i5 <| aj u6 <| aj a6 <| aj s6 <| aj z6 <| aj i6 <| aj a7 <| aj s7 <| aj z7 <| aj i7 <| aj n7 <| aj p7 <| aj ff7 <| aj d7 <| aj u25 <| aj a25 <| aj s25 <| aj z25 <| aj q25 <| aj n25 <| aj u68 <| aj a68 <| aj s68 <| aj z68 <| aj q68 <| aj n68 <| aj a131 <| aj s131 <| aj z131 <| n131
open Tryz in
def Tryz.FFtb671 := aj a1 <| aj s1 <| aj z1 <| aj n1 <| aj u2 <| aj a2 <| aj s2 <| aj z2 <| aj i2 <| aj u3 <| aj a3 <| aj s3 <| aj z3 <| aj i3 <| aj u4 <| aj a4 <| aj s4 <| aj z4 <| aj n4 <| aj u25 <| aj a25 <| aj s25 <| aj z25 <| aj q25 <| aj n25 <| aj u43 <| aj a43 <| aj s43 <| aj z43 <| aj q43 <| aj n43 <| aj u68 <| aj a68 <| aj s68 <| aj z68 <| aj q68 <| aj n68 <| aj a131 <| aj s131 <| aj z131 <| n131
open Tryz in
def Tryz.FFtb621 := aj a1 <| aj s1 <| aj z1 <| aj n1 <| aj u2 <| aj a2 <| aj s2 <| aj z2 <| aj i2 <| aj u3 <| aj a3 <| aj s3 <| aj z3 <| aj i3 <| aj u4 <| aj a4 <| aj s4 <| aj z4 <| aj n4 <| aj u5 <| aj a5 <| aj s5 <| aj z5 <| aj i5 <| aj u25 <| aj a25 <| aj s25 <| aj z25 <| aj q25 <| aj n25 <| aj u43 <| aj a43 <| aj s43 <| aj z43 <| aj q43 <| aj n43 <| aj u65 <| aj a65 <| aj s65 <| aj z65 <| aj q65 <| aj i65 <| aj n65 <| aj u68 <| aj a68 <| aj s68 <| aj z68 <| aj q68 <| aj n68 <| aj a128 <| aj s128 <| aj z128 <| aj i128 <| aj n128 <| aj p128 <| aj ff128 <| aj d128 <| aj a131 <| aj s131 <| aj z131 <| aj n131 <| aj a133 <| aj s133 <| aj z133 <| n133
def fW (N : Nat) (l : List Int) : Prop := l.length = N ∧ ∀ x ∈ l, 0 ≤ x ∧ x ≤ 72057594037927936
theorem mk11_ok {h0 : Hp} (ok : h0.t.Sized h0.n) {x : Int} (hx : 0 ≤ x ∧ x ≤ 72057594037927936) : bQ Tryz.abEnv 70 [.int .i64 x] h0 (.bool false) := by
 have S := St.init (M := NoM) ok
 have c1 : ¬ x < 0 := by omega
 have c2 : ¬ 72057594037927936 < x := by omega
 refine ah (n := 9) (rs := [.tmp 2]) rfl Tryz.e70 rfl rfl rfl (lbt rfl) ?_
 simp only [BS, LB, ag, Nat.reduceLT, Nat.reduceEqDiff, c1, c2]
 exact S.gr
theorem mkIdx_ok {h0 : Hp} (ok : h0.t.Sized h0.n) {v : Value} {l : List Int} (hv : aB h0 1 (encI .i64) v l) (hl : l.length ≤ 1000000) (hx : ∀ x ∈ l, 0 ≤ x ∧ x ≤ 72057594037927936) : bQ Tryz.abEnv 131 [v, .func (.func 70) #[] #[]] h0 (.int .i64 (-1)) := by
 have S := St.init (M := NoM) ok
 refine ah (n := 19) (rs := [.tmp 4]) rfl Tryz.e131 rfl rfl rfl (lbt rfl) ?_
 simp only [BS, LB, Nat.reduceLT, Nat.reduceEqDiff, Tryz.FFtb6131, hv.lenq]
 refine bE (fun (i : Nat) ρ h => i ≤ l.length ∧ Gr h0 h ∧ ρ 0 = v ∧ ρ 1 = .func (.func 70) #[] #[] ∧ ρ 7 = .int .i64 l.length ∧ ρ 8 = .int .i64 i) (fun i => l.length - i) ?_ 0 _ _ ?_
 · clear S
   intro i ih ρ h ⟨hi, S, r0, r1, r7, r8⟩
   by_cases hlt : i < l.length
   · obtain ⟨q, o, hidx, hld⟩ := (hv.gr S).ix (kd := .i64) (cN .i64) hlt
     have w : au .i64 ((i : Int) + 1) = ((i + 1 : Nat) : Int) := by rw [wrap64] <;> omega
     simp only [BS, LB, Nat.reduceLT, Nat.reduceEqDiff, Tryz.FFtb6131, r0, r1, r7, r8, aF, hlt, hidx, hld, encI]
     refine ar (mk11_ok S.ok (hx _ (List.getElem_mem hlt))) ?_
     intro h' g
     simp only [BS, LB, Nat.reduceLT, Nat.reduceEqDiff, r8, w]
     exact ih (i + 1) _ _ (by omega) ⟨by omega, S.trans g, by simp [aa, r0], by simp [aa, r1], by simp [aa, r7], by simp [aa]⟩
   · simp only [BS, LB, ag, Nat.reduceLT, Nat.reduceEqDiff, r7, r8, aF, hlt]
     exact S
 · exact ⟨Nat.zero_le _, Gr.refl ok, by simp [aa, bg], by simp [aa, bg, cv], by simp [aa], by simp [aa]⟩
theorem mkCf_ok {h0 : Hp} (ok : h0.t.Sized h0.n) {v : Value} {l : List Int} (hv : aB h0 1 (encI .i64) v l) (hl : l.length ≤ 1000000) (hx : ∀ x ∈ l, 0 ≤ x ∧ x ≤ 72057594037927936) : bQ Tryz.abEnv 69 [v, .func (.func 70) #[] #[]] h0 (.bool false) := by
 have S := St.init (M := NoM) ok
 refine ah (n := 9) (rs := [.tmp 4]) rfl Tryz.e69 rfl rfl rfl (lbt rfl) ?_
 simp only [BS, LB, Nat.reduceLT, Nat.reduceEqDiff]
 refine ar (mkIdx_ok S.ok hv hl hx) ?_; intro h g; replace S := S.call g; clear g
 simp only [BS, LB, ag, Nat.reduceLT, Nat.reduceEqDiff, Int.reduceLE]
 exact S.gr
theorem mk1_ok {h0 : Hp} (ok : h0.t.Sized h0.n) {b N : Nat} {v : Value} {l : List Int} (hb : h0.load b 0 1 = some [.int .i64 N]) (hv : aB h0 1 (encI .i64) v l) (hl : fW N l) (hN : N ≤ 1000000) : bQ Tryz.abEnv 68 [v, ptrTo b] h0 (.bool false) := by
 have S := St.init (M := NoM) ok
 have e := hl.1
 subst e
 refine ah (n := 12) (rs := [.tmp 3]) rfl Tryz.e68 rfl rfl rfl (lbt rfl) ?_
 simp only [BS, LB, Nat.reduceLT, Nat.reduceEqDiff, Tryz.FFtb668, hv.lenq, hb]
 refine ar (mkCf_ok S.ok hv hN hl.2) ?_; intro h g; replace S := S.call g; clear g
 simp only [BS, LB, ag, Nat.reduceLT, Nat.reduceEqDiff]
 exact S.gr
theorem mkIdxR_ok {h0 : Hp} (ok : h0.t.Sized h0.n) {b N m n : Nat} {v : Value} {R : Nat → List Int} (hb : h0.load b 0 1 = some [.int .i64 N]) (hv : dI h0 m v n R) (hn : n ≤ 1000000) (hR : ∀ i, i < n → fW N (R i)) (hN : N ≤ 1000000) : bQ Tryz.abEnv 132 [v, .func (.func 68) #[] #[ptrTo b]] h0 (.int .i64 (-1)) := by
 have S := St.init (M := NoM) ok
 refine ah (n := 19) (rs := [.tmp 4]) rfl Tryz.e132 rfl rfl rfl (lbt rfl) ?_
 simp only [BS, LB, Nat.reduceLT, Nat.reduceEqDiff, Tryz.FFtb6132, hv.lenq]
 refine bE (fun (i : Nat) ρ h => i ≤ n ∧ Gr h0 h ∧ ρ 0 = v ∧ ρ 1 = .func (.func 68) #[] #[ptrTo b] ∧ ρ 7 = .int .i64 n ∧ ρ 8 = .int .i64 i) (fun i => n - i) ?_ 0 _ _ ?_
 · clear S
   intro i ih ρ h ⟨hi, S, r0, r1, r7, r8⟩
   by_cases hlt : i < n
   · obtain ⟨x, ⟨q, o, hidx, hld⟩, hx, _⟩ := (hv.gr S).row hlt
     have fx := hx.fl
     have w : au .i64 ((i : Int) + 1) = ((i + 1 : Nat) : Int) := by rw [wrap64] <;> omega
     simp only [BS, LB, Nat.reduceLT, Nat.reduceEqDiff, Tryz.FFtb6132, r0, r1, r7, r8, aF, hlt, hidx, hld]
     refine ar (mk1_ok S.ok (S.load hb) hx (hR i hlt) hN) ?_
     intro h' g
     simp only [BS, LB, Nat.reduceLT, Nat.reduceEqDiff, r8, w]
     exact ih (i + 1) _ _ (by omega) ⟨by omega, S.trans g, by simp [aa, r0], by simp [aa, r1, ae], by simp [aa, r7], by simp [aa]⟩
   · simp only [BS, LB, ag, Nat.reduceLT, Nat.reduceEqDiff, r7, r8, aF, hlt]
     exact S
 · exact ⟨Nat.zero_le _, Gr.refl ok, by simp [aa, bg], by simp [aa, bg, cv, ae], by simp [aa], by simp [aa]⟩
theorem mkCfR_ok {h0 : Hp} (ok : h0.t.Sized h0.n) {b N m n : Nat} {v : Value} {R : Nat → List Int} (hb : h0.load b 0 1 = some [.int .i64 N]) (hv : dI h0 m v n R) (hn : n ≤ 1000000) (hR : ∀ i, i < n → fW N (R i)) (hN : N ≤ 1000000) : bQ Tryz.abEnv 72 [v, .func (.func 68) #[] #[ptrTo b]] h0 (.bool false) := by
 have S := St.init (M := NoM) ok
 refine ah (n := 9) (rs := [.tmp 4]) rfl Tryz.e72 rfl rfl rfl (lbt rfl) ?_
 simp only [BS, LB, Nat.reduceLT, Nat.reduceEqDiff]
 refine ar (mkIdxR_ok S.ok hb hv hn hR hN) ?_; intro h g; replace S := S.call g; clear g
 simp only [BS, LB, ag, Nat.reduceLT, Nat.reduceEqDiff, Int.reduceLE]
 exact S.gr
theorem mk2_ok {h0 : Hp} (ok : h0.t.Sized h0.n) {b b5 b9 N m n : Nat} {v vM : Value} {l : List Int} {R : Nat → List Int} (h5 : h0.load b5 0 1 = some [vM]) (h9 : h0.load b9 0 1 = some [.func (.func 68) #[] #[ptrTo b]]) (hM : aB h0 1 (encI .i64) vM l) (hb : h0.load b 0 1 = some [.int .i64 N]) (hv : dI h0 m v n R) (hn : n ≤ 1000000) (hln : l.length = n) (hR : ∀ i, i < n → fW N (R i)) (hN : N ≤ 1000000) : bQ Tryz.abEnv 71 [v, ptrTo b5, ptrTo b9] h0 (.bool false) := by
 have S := St.init (M := NoM) ok
 have fM := hM.fl
 subst hln
 refine ah (n := 15) (rs := [.tmp 4]) rfl Tryz.e71 rfl rfl rfl (lbt rfl) ?_
 simp only [BS, LB, Nat.reduceLT, Nat.reduceEqDiff, Tryz.FFtb671, hv.lenq, hM.lenq, h5, h9]
 refine ar (mkCfR_ok S.ok hb hv hn hR hN) ?_; intro h g; replace S := S.call g; clear g
 simp only [BS, LB, ag, Nat.reduceLT, Nat.reduceEqDiff]
 exact S.gr
theorem make_ok {h0 : Hp} (ok : h0.t.Sized h0.n) {N mT mF : Nat} {vM vT vF : Value} {l : List Int} {R Q : Nat → List Int} (hM : aB h0 1 (encI .i64) vM l) (hT : dI h0 mT vT l.length R) (hF : dI h0 mF vF l.length Q) (n1 : 1 ≤ N) (hN : N ≤ 100) (hl : fD N l) (hR : ∀ i, i < l.length → fW N (R i)) (hQ : ∀ i, i < l.length → fW N (Q i)) :
 Ret Tryz.abEnv 21 [.int .i64 N, vM, vT, vF] h0 fun r h' => Gr h0 h' ∧ TabAt h' h0.n r N l R Q := by
 have S := St.init (M := NoM) ok
 have hl16 := hl.1
 have hlen : l.length < 1000 := by omega
 have c1 : ¬ (N : Int) < 1 := by omega
 have cm : decide (fD N l) = true := decide_eq_true hl
 have fM := hM.fl
 obtain ⟨ma, mn, mc, rfl⟩ := hM.form
 refine ah (n := 40) (rs := [.tmp 8]) rfl Tryz.e21 rfl rfl rfl (lbt rfl) ?_
 simp only [BS, Nat.reduceLT]
 refine ao (bS (by intro x e; cases e)) S ?_; clear S; intro h b4 S n_b4; simp only [an] at S
 simp only [BS, Nat.reduceLT, Nat.reduceEqDiff, if_false]
 refine ao (bS (by intro x e; cases e)) S ?_; clear S; intro h b5 S n_b5; simp only [an] at S
 simp only [BS, LB, Nat.reduceLT, Nat.reduceEqDiff, Tryz.FFtb621]
 refine ao aJ S ?_; clear S; intro h b9 S n_b9
 simp only [BS, LB, Nat.reduceLT, Nat.reduceEqDiff]
 first | refine ac (ab S (i := 0) rfl ?_ ?_ ?_ ono) ?_ | refine ac (ab S (i := 1) rfl ?_ ?_ ?_ ono) ?_ | refine ac (ab S (i := 2) rfl ?_ ?_ ?_ ono) ?_ | refine ac (ab S (i := 3) rfl ?_ ?_ ?_ ono) ?_ | refine ac (ab S (i := 4) rfl ?_ ?_ ?_ ono) ?_ | refine ac (ab S (i := 5) rfl ?_ ?_ ?_ ono) ?_ | refine ac (ab S (i := 6) rfl ?_ ?_ ?_ ono) ?_ | refine ac (ab S (i := 7) rfl ?_ ?_ ?_ ono) ?_
 · exact (by simp only [Tryz.FFtb621])
 · exact (by first | exact aM | exact aw | exact aX | exact aT | exact bo | exact aP | exact aU | exact aK | exact aV | exact bz | assumption)
 · exact Nat.lt_of_succ_le (lbt rfl)
 clear S; rintro h ⟨S, mo⟩; clear mo; simp only [List.set_cons_zero, List.set_cons_succ, an, lay, List.take, List.drop, List.nil_append, List.cons_append, List.append_nil, List.length_cons, List.length_nil, Nat.reduceAdd, Nat.add_zero] at S
 have l4 := S.ld (b := b4) (o := 0) m2 rfl
 have l5 := S.ld (b := b5) (o := 0) m1 rfl
 have l9 := S.ld (b := b9) (o := 0) m0 rfl
 simp only [BS, LB, Nat.reduceLT, Nat.reduceEqDiff, Tryz.FFtb621, l4, l5, c1]
 refine ar (may_ok S.ok (hM.gr S.gr) (by omega)) ?_; intro h g; replace S := S.call g; clear g
 rw [cm]
 simp only [BS, LB, Nat.reduceLT, Nat.reduceEqDiff]
 have l4 := S.ld (b := b4) (o := 0) m2 rfl
 have l5 := S.ld (b := b5) (o := 0) m1 rfl
 have l9 := S.ld (b := b9) (o := 0) m0 rfl
 refine ar (mk2_ok S.ok l5 l9 (hM.gr S.gr) l4 (hT.gr S.gr) (by omega) rfl hR (by omega)) ?_; intro h g; replace S := S.call g; clear g
 simp only [BS, LB, Nat.reduceLT, Nat.reduceEqDiff]
 have l4 := S.ld (b := b4) (o := 0) m2 rfl
 have l5 := S.ld (b := b5) (o := 0) m1 rfl
 have l9 := S.ld (b := b9) (o := 0) m0 rfl
 refine ar (mk2_ok S.ok l5 l9 (hM.gr S.gr) l4 (hF.gr S.gr) (by omega) rfl hQ (by omega)) ?_; intro h g; replace S := S.call g; clear g
 have l4 := S.ld (b := b4) (o := 0) m2 rfl
 have l5 := S.ld (b := b5) (o := 0) m1 rfl
 simp only [BS, LB, Nat.reduceLT, Nat.reduceEqDiff]
 refine aI (aR rfl) (q := 256) (ps := [(0, 6), (0, 4), (0, 2)]) (by kernel_rfl) ?_
 simp only [BS, LB, cls, Nat.reduceLT, Nat.reduceEqDiff, Nat.reduceAdd, Nat.reducePow, Nat.reduceDiv, Nat.reduceMod, Nat.reduceLeDiff, Tryz.FFtb621, l4, l5]
 refine dO (iA S.ok (cN .i64) (hM.gr S.gr) (by omega)) ?_
 rintro v h ⟨g, slM, nM⟩
 have e41 : leaves _ _ b4 = true := aW g ((S.row (b := b4) m2).lt S.ok)
 have e51 : leaves _ _ b5 = true := aW g ((S.row (b := b5) m1).lt S.ok)
 have k1 := S.fr.n
 have ky1 := fun c (hc : c ∈ keys _ _) => S.key_lt hc
 replace S := S.call g; clear g
 obtain ⟨va, vn, vc, rfl⟩ := slM.form
 simp only [BS, LB, cls, Nat.reduceLT, Nat.reduceEqDiff, Nat.reduceAdd, Nat.reducePow, Nat.reduceDiv, Nat.reduceMod, Nat.reduceLeDiff]
 refine dO (qC S.ok (hT.gr S.gr) hlen (fun i hi => by have := (hR i hi).1; omega)) ?_
 rintro v h ⟨g, L1⟩
 have e42 : leaves _ _ b4 = true := aW g ((S.row (b := b4) m2).lt S.ok)
 have e52 : leaves _ _ b5 = true := aW g ((S.row (b := b5) m1).lt S.ok)
 have k2 := S.fr.n
 have ky2 := fun c (hc : c ∈ keys _ _) => S.key_lt hc
 replace S := S.call g; replace slM := slM.gr g; clear g
 obtain ⟨ta, tn, tc, rfl⟩ := L1.form
 simp only [BS, LB, cls, Nat.reduceLT, Nat.reduceEqDiff, Nat.reduceAdd, Nat.reducePow, Nat.reduceDiv, Nat.reduceMod, Nat.reduceLeDiff]
 refine dO (qC S.ok (hF.gr S.gr) hlen (fun i hi => by have := (hQ i hi).1; omega)) ?_
 rintro v h ⟨g, L2⟩
 have e43 : leaves _ _ b4 = true := aW g ((S.row (b := b4) m2).lt S.ok)
 have e53 : leaves _ _ b5 = true := aW g ((S.row (b := b5) m1).lt S.ok)
 have k3 := S.fr.n
 have ky3 := fun c (hc : c ∈ keys _ _) => S.key_lt hc
 replace S := S.call g; replace slM := slM.gr g; replace L1 := L1.gr g; clear g
 obtain ⟨fa, fn, fc, rfl⟩ := L2.form
 simp only [BS, LB, cls, Nat.reduceLT, Nat.reduceEqDiff, Nat.reduceAdd, Nat.reducePow, Nat.reduceDiv, Nat.reduceMod, Nat.reduceLeDiff, Tryz.FFtb621]
 have Sb := S
 replace S := S.base
 have q4 := (Sb.row (b := b4) m2).lt Sb.ok
 have q5 := (Sb.row (b := b5) m1).lt Sb.ok
 refine eF (bS (by intro x e; cases e)) S ?_; clear S; intro h b S n_b e_b; simp only [an] at S
 have e4b : b4 ≠ b := by omega
 have e5b : b5 ≠ b := by omega
 simp only [BS, LB, cls, ag, Nat.reduceLT, Nat.reduceEqDiff, Nat.reduceAdd, Nat.reducePow, Nat.reduceDiv, Nat.reduceMod, Nat.reduceLeDiff]
 refine ⟨by simp only [bL, bR, bC, bU, bF, ne_eq, not_false_eq_true, bW, cB, bJ, bG, cK, dk, bH, Nat.reduceLT, Nat.reduceEqDiff, reduceIte, Bool.and_true, ae, aS e41, aS e42, aS e43, aS e51, aS e52, aS e53, iM e4b, iM e5b, ← e_b], ?_⟩
 have f2 := S.fr
 have slM2 := slM.mo f2 (fun c hc hm => by have := nM c hc; have := ky1 c hm; omega)
 have L1' := L1.mo f2 (fun c hm => .inl (ky2 c hm))
 have L2' := L2.mo f2 (fun c hm => .inl (ky3 c hm))
 have hMt := S.row (b := b) m0
 replace S := Sb.rebase S
 exact ⟨S.gr, ⟨b, _, _, _, rfl, hMt, slM2, L1'.ll.low k2, L2'.ll.low k3, (S.own _ m0).1.elim (fun h => h) (fun h => h.elim), fun c hc => Nat.le_trans k1 (nM c hc)⟩⟩
end Go.Ab

end
section
namespace Go.Ab
open Go.Proofs
set_option maxRecDepth 10000
open Tryz in
def Tryz.FFbw124 := aj a1 <| aj s1 <| aj z1 <| aj n1 <| aj u2 <| aj a2 <| aj s2 <| aj z2 <| aj i2 <| aj u3 <| aj a3 <| aj s3 <| aj z3 <| aj i3 <| aj u4 <| aj a4 <| aj s4 <| aj z4 <| aj n4 <| aj u43 <| aj a43 <| aj s43 <| aj z43 <| aj q43 <| aj n43 <| aj u65 <| aj a65 <| aj s65 <| aj z65 <| aj q65 <| aj i65 <| aj n65 <| aj u68 <| aj a68 <| aj s68 <| aj z68 <| aj q68 <| aj n68 <| aj a128 <| aj s128 <| aj z128 <| aj i128 <| aj n128 <| aj p128 <| aj ff128 <| aj d128 <| aj a140 <| aj s140 <| aj z140 <| aj n140 <| aj a141 <| aj s141 <| aj z141 <| n141
open Tryz in
def Tryz.FFbw125 := aj a1 <| aj s1 <| aj z1 <| aj n1 <| aj u2 <| aj a2 <| aj s2 <| aj z2 <| aj i2 <| aj u3 <| aj a3 <| aj s3 <| aj z3 <| aj i3 <| aj u4 <| aj a4 <| aj s4 <| aj z4 <| aj n4 <| aj u5 <| aj a5 <| aj s5 <| aj z5 <| aj i5 <| aj u6 <| aj a6 <| aj s6 <| aj z6 <| aj i6 <| aj u43 <| aj a43 <| aj s43 <| aj z43 <| aj q43 <| aj n43 <| aj u65 <| aj a65 <| aj s65 <| aj z65 <| aj q65 <| aj i65 <| aj n65 <| aj u68 <| aj a68 <| aj s68 <| aj z68 <| aj q68 <| aj n68 <| aj a128 <| aj s128 <| aj z128 <| aj i128 <| aj n128 <| aj p128 <| aj ff128 <| d128
theorem fG {h0 : Hp} (ok : h0.t.Sized h0.n) {m N : Nat} {p : Value} {l : List Int} {R Q : Nat → List Int} (t : TabAt h0 m p N l R Q) {v : Int} : bQ Tryz.abEnv 78 [p, .int .i64 v] h0 (.bool (decide (0 ≤ v ∧ v < N))) := by
 have S := St.init (M := NoM) ok
 refine ah (n := 13) (rs := [.tmp 4]) rfl Tryz.e78 rfl rfl rfl (lbt rfl) ?_
 by_cases c : 0 ≤ v
 · simp only [BS, LB, Nat.reduceLT, Nat.reduceEqDiff, c]
   refine ar (sX S.ok (t.gr S.gr)) ?_; intro h g; replace S := S.call g; clear g
   simp only [BS, LB, ag, Nat.reduceLT, Nat.reduceEqDiff]
   exact S.gr
 · simp only [BS, LB, ag, Nat.reduceLT, Nat.reduceEqDiff, c]
   exact ⟨by simp, S.gr⟩
theorem wayTo_ok {h0 : Hp} (ok : h0.t.Sized h0.n) {m N : Nat} {p : Value} {l : List Int} {R Q : Nat → List Int} (t : TabAt h0 m p N l R Q) (hW : ∀ i, i < l.length → (R i).length = N) {i v w : Int} :
 bQ Tryz.abEnv 79 [.func (.func 80) #[p] #[], .func (.func 81) #[] #[], .int .i64 i, .int .i64 v, .int .i64 w] h0 (.int .i64 (lowD (ff N l.length R i v) (ff N l.length R i w))) := by
 have S := St.init (M := NoM) ok
 refine ah (n := 21) (rs := [.tmp 10]) rfl Tryz.e79 rfl rfl rfl (lbt rfl) ?_
 simp only [BS, LB, Nat.reduceLT, Nat.reduceEqDiff]
 refine ar (rt S.ok (t.gr S.gr) hW) ?_; intro h g; replace S := S.call g; clear g
 simp only [BS, LB, Nat.reduceLT, Nat.reduceEqDiff]
 refine ar (rt S.ok (t.gr S.gr) hW) ?_; intro h g; replace S := S.call g; clear g
 simp only [BS, LB, Nat.reduceLT, Nat.reduceEqDiff]
 refine ar (low_ok S.ok) ?_; intro h g; replace S := S.call g; clear g
 simp only [BS, LB, ag, Nat.reduceLT, Nat.reduceEqDiff]
 exact S.gr
theorem wayFr_ok {h0 : Hp} (ok : h0.t.Sized h0.n) {m N : Nat} {p : Value} {l : List Int} {R Q : Nat → List Int} (t : TabAt h0 m p N l R Q) (hW : ∀ i, i < l.length → (Q i).length = N) {i v w : Int} :
 bQ Tryz.abEnv 79 [.func (.func 82) #[p] #[], .func (.func 83) #[] #[], .int .i64 i, .int .i64 v, .int .i64 w] h0 (.int .i64 (lowD (ff N l.length Q i w) (ff N l.length Q i v))) := by
 have S := St.init (M := NoM) ok
 refine ah (n := 21) (rs := [.tmp 10]) rfl Tryz.e79 rfl rfl rfl (lbt rfl) ?_
 simp only [BS, LB, Nat.reduceLT, Nat.reduceEqDiff]
 refine ar (pg S.ok (t.gr S.gr) hW) ?_; intro h g; replace S := S.call g; clear g
 simp only [BS, LB, Nat.reduceLT, Nat.reduceEqDiff]
 refine ar (pg S.ok (t.gr S.gr) hW) ?_; intro h g; replace S := S.call g; clear g
 simp only [BS, LB, Nat.reduceLT, Nat.reduceEqDiff]
 refine ar (lift_ok S.ok) ?_; intro h g; replace S := S.call g; clear g
 simp only [BS, LB, ag, Nat.reduceLT, Nat.reduceEqDiff]
 exact S.gr
def fZ (N n : Nat) (R Q : Nat → List Int) (i v w : Int) : Int := if (0 ≤ v ∧ v < N) ∧ (0 ≤ w ∧ w < N) ∧ 0 ≤ i ∧ i < n then max (lowD (ff N n R i v) (ff N n R i w)) (lowD (ff N n Q i w) (ff N n Q i v)) else 0
theorem jr {h0 : Hp} (ok : h0.t.Sized h0.n) {m N : Nat} {p : Value} {l : List Int} {R Q : Nat → List Int} (t : TabAt h0 m p N l R Q) (hR : ∀ i, i < l.length → (R i).length = N) (hQ : ∀ i, i < l.length → (Q i).length = N) (hl : l.length < 1000) {i v w : Int} :
 bQ Tryz.abEnv 24 [p, .int .i64 i, .int .i64 v, .int .i64 w] h0 (.int .i64 (fZ N l.length R Q i v w)) := by
 have S := St.init (M := NoM) ok
 by_cases c1 : 0 ≤ v ∧ v < N
 · by_cases c2 : 0 ≤ w ∧ w < N
   · by_cases c3 : i < 0
     · rw [show fZ N l.length R Q i v w = 0 from if_neg (by omega)]
       refine ah (n := 43) (rs := [.tmp 8]) rfl Tryz.e24 rfl rfl rfl (lbt rfl) ?_
       simp only [BS, LB, Nat.reduceLT, Nat.reduceEqDiff]
       refine ar (fG S.ok (t.gr S.gr)) ?_; intro h g; replace S := S.call g; clear g
       simp only [BS, LB, Nat.reduceLT, Nat.reduceEqDiff, c1]
       refine ar (fG S.ok (t.gr S.gr)) ?_; intro h g; replace S := S.call g; clear g
       simp only [BS, LB, ag, Nat.reduceLT, Nat.reduceEqDiff, c2, c3]
       exact S.gr
     · by_cases c4 : (l.length : Int) ≤ i
       · rw [show fZ N l.length R Q i v w = 0 from if_neg (by omega)]
         refine ah (n := 43) (rs := [.tmp 8]) rfl Tryz.e24 rfl rfl rfl (lbt rfl) ?_
         simp only [BS, LB, Nat.reduceLT, Nat.reduceEqDiff]
         refine ar (fG S.ok (t.gr S.gr)) ?_; intro h g; replace S := S.call g; clear g
         simp only [BS, LB, Nat.reduceLT, Nat.reduceEqDiff, c1]
         refine ar (fG S.ok (t.gr S.gr)) ?_; intro h g; replace S := S.call g; clear g
         simp only [BS, LB, Nat.reduceLT, Nat.reduceEqDiff, c2, c3]
         refine step_ret (kX S.ok (t.gr S.gr) hl) ?_; intro v h ⟨g, slM, _⟩; replace S := S.call g; clear g
         simp only [BS, LB, ag, Nat.reduceLT, Nat.reduceEqDiff, Tryz.FFbw124, c4, slM.lenq]
         exact S.gr
       · rw [show fZ N l.length R Q i v w = max (lowD (ff N l.length R i v) (ff N l.length R i w)) (lowD (ff N l.length Q i w) (ff N l.length Q i v)) from if_pos ⟨c1, c2, by omega, by omega⟩]
         refine ah (n := 43) (rs := [.tmp 8]) rfl Tryz.e24 rfl rfl rfl (lbt rfl) ?_
         simp only [BS, LB, Nat.reduceLT, Nat.reduceEqDiff]
         refine ar (fG S.ok (t.gr S.gr)) ?_; intro h g; replace S := S.call g; clear g
         simp only [BS, LB, Nat.reduceLT, Nat.reduceEqDiff, c1]
         refine ar (fG S.ok (t.gr S.gr)) ?_; intro h g; replace S := S.call g; clear g
         simp only [BS, LB, Nat.reduceLT, Nat.reduceEqDiff, c2, c3]
         refine step_ret (kX S.ok (t.gr S.gr) hl) ?_; intro v h ⟨g, slM, _⟩; replace S := S.call g; clear g
         simp only [BS, LB, Nat.reduceLT, Nat.reduceEqDiff, Tryz.FFbw124, c4, slM.lenq]
         refine ar (wayTo_ok S.ok (t.gr S.gr) hR) ?_; intro h g; replace S := S.call g; clear g
         simp only [BS, LB, Nat.reduceLT, Nat.reduceEqDiff]
         refine ar (wayFr_ok S.ok (t.gr S.gr) hQ) ?_; intro h g; replace S := S.call g; clear g
         simp only [BS, LB, ag, Nat.reduceLT, Nat.reduceEqDiff]
         exact S.gr
   · rw [show fZ N l.length R Q i v w = 0 from if_neg (fun h => c2 h.2.1)]
     refine ah (n := 43) (rs := [.tmp 8]) rfl Tryz.e24 rfl rfl rfl (lbt rfl) ?_
     simp only [BS, LB, Nat.reduceLT, Nat.reduceEqDiff]
     refine ar (fG S.ok (t.gr S.gr)) ?_; intro h g; replace S := S.call g; clear g
     simp only [BS, LB, Nat.reduceLT, Nat.reduceEqDiff, c1]
     refine ar (fG S.ok (t.gr S.gr)) ?_; intro h g; replace S := S.call g; clear g
     simp only [BS, LB, ag, Nat.reduceLT, Nat.reduceEqDiff, c2]
     exact S.gr
 · rw [show fZ N l.length R Q i v w = 0 from if_neg (fun h => c1 h.1)]
   refine ah (n := 43) (rs := [.tmp 8]) rfl Tryz.e24 rfl rfl rfl (lbt rfl) ?_
   simp only [BS, LB, Nat.reduceLT, Nat.reduceEqDiff]
   refine ar (fG S.ok (t.gr S.gr)) ?_; intro h g; replace S := S.call g; clear g
   simp only [BS, LB, ag, Nat.reduceLT, Nat.reduceEqDiff, c1]
   exact S.gr
def lZ (N n : Nat) (R Q : Nat → List Int) (v w : Int) (l : List Int) : Int := l.foldl (fun b i => max b (fZ N n R Q i v w)) 0
theorem rP {h0 : Hp} (ok : h0.t.Sized h0.n) {m N : Nat} {p : Value} {l : List Int} {R Q : Nat → List Int} (t : TabAt h0 m p N l R Q) (hR : ∀ i, i < l.length → (R i).length = N) (hQ : ∀ i, i < l.length → (Q i).length = N) (hl : l.length < 1000) {va : Value} {act : List Int} (ha : aB h0 1 (encI .i64) va act) (hal : act.length < 1000) {v w : Int} :
 bQ Tryz.abEnv 25 [p, va, .int .i64 v, .int .i64 w] h0 (.int .i64 (lZ N l.length R Q v w act)) := by
 have S := St.init (M := NoM) ok
 refine ah (n := 26) (rs := [.tmp 8]) rfl Tryz.e25 rfl rfl rfl (lbt rfl) ?_
 simp only [BS, LB, Nat.reduceLT, Nat.reduceEqDiff, Tryz.FFbw125, ha.lenq]
 refine bE (fun (k : Nat) ρ h => k ≤ act.length ∧ Gr h0 h ∧ ρ 0 = p ∧ ρ 2 = .int .i64 v ∧ ρ 3 = .int .i64 w ∧ ρ 8 = .int .i64 (lZ N l.length R Q v w (act.take k)) ∧ ρ 11 = va ∧ ρ 12 = .int .i64 act.length ∧ ρ 13 = .int .i64 k) (fun k => act.length - k) ?_ 0 _ _ ?_
 · clear S
   intro k ih ρ h ⟨hk, g0, r0, r2, r3, r8, r11, r12, r13⟩
   have wk : au .i64 ((k : Int) + 1) = ((k + 1 : Nat) : Int) := by rw [wrap64] <;> omega
   by_cases hlt : k < act.length
   · obtain ⟨c, o, hidx, hld⟩ := (ha.gr g0).ix (kd := .i64) (cN .i64) hlt
     simp only [BS, LB, Nat.reduceLT, Nat.reduceEqDiff, Tryz.FFbw125, r0, r2, r3, r8, r11, r12, r13, aF, hlt, hidx, hld, encI]
     refine ar (jr g0.ok (t.gr g0) hR hQ hl) ?_
     intro h g
     simp only [BS, LB, Nat.reduceLT, Nat.reduceEqDiff, r13, wk]
     refine ih (k + 1) _ _ (by omega) ⟨by omega, g0.trans g, by simp [aa, r0], by simp [aa, r2], by simp [aa, r3], ?_, by simp [aa, r11], by simp [aa, r12], by simp [aa]⟩
     rw [List.take_succ_eq_append_getElem hlt]
     unfold lZ
     rw [List.foldl_append]
     simp [aa]
   · simp only [BS, LB, ag, Nat.reduceLT, Nat.reduceEqDiff, r8, r12, r13, aF, hlt]
     rw [List.take_of_length_le (by omega)]
     exact ⟨rfl, g0⟩
 · exact ⟨Nat.zero_le _, S.gr, by simp [aa, bg], by simp [aa, bg, cv], by simp [aa, bg, cv], by simp [aa, lZ], by simp [aa], by simp [aa], by simp [aa]⟩
end Go.Ab

end
section
namespace Go.Ab
def SlW (h : Hp) (kd : IntKind) (v : Value) (xs : List Int) : Prop := (v = .slice none 0 0 ∧ xs = []) ∨ ∃ b o c, v = .slice (some ⟨b, o, none⟩) xs.length c ∧ xs.length ≤ c ∧ h.load b o (xs.length * 1) = some (xs.flatMap (encI kd))
theorem SlW.sl {h : Hp} {kd : IntKind} {v : Value} {xs : List Int} (s : SlW h kd v xs) : aB h 1 (encI kd) v xs := s.imp (fun h => h) (fun ⟨b, o, c, h1, h2, h3⟩ => ⟨b, o, none, c, h1, h2, h3⟩)
theorem SlW.low {E : Env} {h : Hp} {kd kd' : IntKind} {t e : TypeId} {v : Value} {xs : List Int} (hu : E.und t = some (.slice e)) (hs : E.sz e = some 1) (s : SlW h kd v xs) {n : Nat} (hn : n ≤ xs.length) :
 ∃ v', dM E t v none (some (.int kd' (n : Int))) none = some v' ∧ aB h 1 (encI kd) v' (xs.take n) ∧ ∀ c, ax v' c → ax v c := by
 have nat : ∀ n : Nat, eB (n : Int) = some n := fun n => rfl
 rcases s with ⟨rfl, rfl⟩ | ⟨b, o, c, rfl, h2, h3⟩
 · have : n = 0 := by simpa using hn
   subst this
   refine ⟨.slice none 0 0, ?_, .inl ⟨rfl, rfl⟩, fun c hc => hc⟩
   simp only [dM, hu, dE, dC, nat, hs]
   rfl
 · refine ⟨.slice (some ⟨b, o, none⟩) n c, ?_, .inr ⟨b, o, none, c, ?_, ?_, ?_⟩, fun c hc => hc⟩
   · simp only [dM, hu, dE, dC, nat, Nat.ble_eq_true_of_le (Nat.le_trans hn h2), cond_true, hs, Option.isSome_none, cond_false, Nat.sub_zero, dH, Nat.zero_mul, Nat.add_zero]
     by_cases hc : c = 0
     · subst hc; rfl
     · rw [show Nat.beq c 0 = false by cases c with | zero => exact absurd rfl hc | succ c => rfl]; rfl
   · rw [List.length_take, Nat.min_eq_left hn]
   · rw [List.length_take, Nat.min_eq_left hn]; exact Nat.le_trans hn h2
   · rw [List.length_take, Nat.min_eq_left hn]
     have := lz h3 (i := 0) (m := n * 1) (by omega)
     rw [Nat.add_zero, List.drop_zero] at this
     rw [this]
     congr 1
     refine List.ext_getElem? fun i => ?_
     have e4 : ∀ l : List Int, l.flatMap (encI kd) = l.map fun x => .int kd x := fun l => by
      rw [List.flatMap_eq_foldl, List.map_eq_flatMap, List.flatMap_eq_foldl]; rfl
     rw [e4, e4, Nat.mul_one, List.map_take]
end Go.Ab

end
