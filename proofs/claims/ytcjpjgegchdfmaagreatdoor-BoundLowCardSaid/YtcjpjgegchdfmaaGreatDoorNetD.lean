/- Nets, cells, flags: what the functions do (part 4). -/
import Derived.Test.YtcjpjgegchdfmaaGreatDoorNetC
import Derived.ChangeSlices
import Derived.ChangeArms
import Derived.ChangeSame
set_option linter.defProp false
set_option linter.unusedVariables false
set_option linter.unusedSimpArgs false
section
/- milestonelaw18's drafts. -/
set_option maxHeartbeats 4000000
set_option linter.unusedSimpArgs false
set_option linter.unusedVariables false
namespace Go.Ab
open Go.Proofs
set_option maxRecDepth 10000
set_option linter.defProp false
open Tryz in
def Tryz.FFbw225 := aj a1 <| aj s1 <| aj z1 <| aj n1 <| aj u2 <| aj a2 <| aj s2 <| aj z2 <| aj i2 <| aj u3 <| aj a3 <| aj s3 <| aj z3 <| aj i3 <| aj u4 <| aj a4 <| aj s4 <| aj z4 <| aj n4 <| aj u5 <| aj a5 <| aj s5 <| aj z5 <| aj i5 <| aj u6 <| aj a6 <| aj s6 <| aj z6 <| aj i6 <| aj a7 <| aj s7 <| aj z7 <| aj i7 <| aj n7 <| aj p7 <| aj ff7 <| aj d7 <| aj a8 <| aj s8 <| aj z8 <| aj i8 <| aj n8 <| aj p8 <| aj ff8 <| aj d8 <| aj u9 <| aj a9 <| aj s9 <| aj z9 <| aj n9 <| aj u10 <| aj a10 <| aj s10 <| aj z10 <| aj n10 <| aj u11 <| aj a11 <| aj s11 <| aj z11 <| aj n11 <| aj u12 <| aj a12 <| aj s12 <| aj z12 <| aj i12 <| aj a13 <| aj s13 <| aj z13 <| aj i13 <| aj n13 <| aj p13 <| aj ff13 <| aj d13 <| aj a14 <| aj s14 <| aj z14 <| aj i14 <| aj n14 <| aj p14 <| aj ff14 <| aj d14 <| aj u15 <| aj a15 <| aj s15 <| aj z15 <| aj q15 <| aj i15 <| aj n15 <| aj u16 <| aj a16 <| aj s16 <| aj z16 <| aj q16 <| aj i16 <| aj n16 <| aj u17 <| aj a17 <| aj s17 <| aj z17 <| aj q17 <| aj i17 <| aj n17 <| aj a18 <| aj s18 <| aj z18 <| aj i18 <| aj n18 <| aj p18 <| aj ff18 <| aj d18 <| aj a19 <| aj s19 <| aj z19 <| aj i19 <| aj n19 <| aj p19 <| aj ff19 <| aj d19 <| aj u22 <| aj a22 <| aj s22 <| aj z22 <| aj q22 <| aj n22 <| aj u23 <| aj a23 <| aj s23 <| aj z23 <| aj q23 <| aj n23 <| aj u24 <| aj a24 <| aj s24 <| aj z24 <| aj q24 <| aj n24 <| aj u25 <| aj a25 <| aj s25 <| aj z25 <| aj q25 <| aj n25 <| aj a27 <| aj s27 <| aj z27 <| aj i27 <| aj n27 <| aj p27 <| aj ff27 <| aj d27 <| aj u29 <| aj a29 <| aj s29 <| aj z29 <| aj q29 <| aj i29 <| aj n29 <| aj u31 <| aj a31 <| aj s31 <| aj z31 <| aj q31 <| aj n31 <| aj u41 <| aj a41 <| aj s41 <| aj z41 <| aj i41 <| aj a51 <| aj s51 <| aj z51 <| aj i51 <| aj n51 <| aj p51 <| aj ff51 <| aj d51 <| aj a60 <| aj s60 <| aj z60 <| aj i60 <| aj n60 <| aj p60 <| aj ff60 <| aj d60 <| aj u70 <| aj a70 <| aj s70 <| aj z70 <| aj q70 <| aj i70 <| aj n70 <| aj a72 <| aj s72 <| aj z72 <| aj i72 <| aj n72 <| aj p72 <| aj ff72 <| aj d72 <| aj a75 <| aj s75 <| aj z75 <| aj q75 <| aj n75 <| aj u126 <| aj a126 <| aj s126 <| aj z126 <| aj q126 <| aj n126 <| aj a128 <| aj s128 <| aj z128 <| aj i128 <| aj n128 <| aj p128 <| aj ff128 <| aj d128 <| aj u199 <| aj a199 <| aj s199 <| aj z199 <| aj i199 <| aj u203 <| aj a203 <| aj s203 <| aj z203 <| aj i203 <| aj a237 <| aj s237 <| aj z237 <| aj i237 <| aj n237 <| aj p237 <| aj ff237 <| aj d237 <| aj u238 <| aj a238 <| aj s238 <| aj z238 <| aj n238 <| aj a240 <| aj s240 <| aj z240 <| aj i240 <| aj n240 <| aj u242 <| aj a242 <| aj s242 <| aj z242 <| aj i242 <| aj a243 <| aj s243 <| aj z243 <| aj n243 <| aj u244 <| aj a244 <| aj s244 <| aj z244 <| aj q244 <| aj i244 <| aj n244 <| aj u245 <| aj a245 <| aj s245 <| aj z245 <| aj i245 <| aj u246 <| aj a246 <| aj s246 <| aj z246 <| aj i246 <| aj a248 <| aj s248 <| aj z248 <| aj i248 <| aj n248 <| aj p248 <| aj ff248 <| d248
def SlG (v : Value) (l : List Int) : Prop := (v = .slice none 0 0 ∧ l = []) ∨ ∃ b, v = .slice (some ⟨b, 0, some 1⟩) l.length l.length
theorem made18_ok {h0 : Hp} (ok : h0.t.Sized h0.n) {vB vM vA vN : Value} {sI wI : Int} {B ms as_ : List Int} (hB : SlW h0 .u8 vB B) (hM : SlW h0 .u8 vM ms) (hMr : ∀ x ∈ ms, 0 ≤ x ∧ x ≤ 255) (hA : SlW h0 .i8 vA as_) (hAr : ∀ x ∈ as_, -128 ≤ x ∧ x ≤ 127) (fN : Fl vN) :
    Ret Tryz.abEnv 25 [.agg ⟨[vB, vM, vA, vN, .int .i8 sI, .int .i8 wI]⟩] h0 fun r h' => Gr h0 h' ∧ ∃ γ vx vy va pn vl vc l act m, r = .tuple #[rawV γ vx vy va, pn, vl, vc] ∧ Good γ ∧ GraphAt h' vx vy va γ ∧ NetAt h' m pn γ ∧ SlAt h' 1 (encI .i64) vl l ∧ MayL γ.nodes l ∧ l.length ≤ 6 ∧ SlAt h' 1 (encI .i64) vc act ∧ act.length ≤ 8 ∧ SlG vc act := by
  have S := St.init (M := NoM) ok
  have fB := hB.sl.fl
  have fM := hM.sl.fl
  have fA := hA.sl.fl
  have mn : min (B.length : Int) 80 = ((min B.length 80 : Nat) : Int) := by omega
  obtain ⟨vB', hsl, sB, bB⟩ := hB.low (kd' := .i64) (n := min B.length 80) Tryz.u22 Tryz.s5 (Nat.min_le_left _ _)
  have fB' := sB.fl
  refine enter_ret (n := 97) (rs := [.cell 2 27, .tmp 3, .tmp 4, .tmp 5]) rfl Tryz.e25 rfl rfl rfl (Nat.le_of_ble_eq_true rfl) ?_
  simp only [BS, Nat.reduceLT]
  refine step_newS (box_new (by intro x e; cases e)) S ?_; clear S; intro h b1 S n_b1; simp only [vcells] at S
  simp only [BS, Tryz.FFbw225]
  refine step_newS allocR_new S ?_; clear S; intro h b2 S n_b2
  simp only [BS, Option.isSome_some, Nat.add_zero, Nat.reduceLT, Nat.reduceEqDiff, Nat.reduceAdd, if_true, if_false, List.map_cons, List.map_nil, List.length_cons, List.length_nil, List.set_cons_zero, List.getElem?_cons_zero, Nat.zero_add, Option.map_some, Option.map_none, eq_self, Tryz.FFbw225, hB.sl.lenq, mn, hsl, fB', S.ld (b := b1) (o := 0) (by first | exact m0 | exact m1 | exact m2 | exact m3 | exact m4 | exact m5 | exact m6 | exact m7) rfl]
  refine step_newS (box_new (by intro x e; cases e)) S ?_; clear S; intro h bd S n_bd; simp only [vcells] at S
  have hB' : SlAt h 1 (encI .u8) vB' (B.take (min B.length 80)) := sB.gr S.gr
  have nB : ¬ blkOf vB' bd := fun hc => by have := sB.lt ok hc; omega
  have lb' : (B.take (min B.length 80)).length < 1000000 := by rw [List.length_take]; omega
  simp only [BS, Nat.reduceLT, Nat.reduceEqDiff, if_true, if_false, List.map_cons, List.map_nil, List.append_nil, List.nil_append, eq_self]
  have k0 := S.fr.n
  have ap := S.apart
  simp only [keys, List.map_cons, List.map_nil, List.filterMap_nil, List.append_nil, List.nodup_cons, List.mem_cons, List.not_mem_nil, or_false, not_or] at ap
  have lt2 := (S.row (b := b2) m1).lt S.ok
  have lt1 := (S.row (b := b1) m2).lt S.ok
  refine step_ret (raw_ok S.ok (S.row m0) ⟨hB', nB, lb', by omega⟩) ?_
  rintro v h ⟨f, γ, vx, vy, va, rfl, hγ, ga, hz⟩
  replace S := S.drop1.step f (fun c hc => by subst hc; exact .inr n_bd) (fun c hc e => by simp [keys] at hc; omega)
  have fx := ga.X.fl
  have fy := ga.Y.fl
  have fa := ga.A.fl
  have n1 := hγ.n1
  have n2 := hγ.n2
  have gS := S.gr
  have r1 := S.row (b := b1) m1
  have r2 := S.row (b := b2) m0
  have S0 := S
  replace S := S.base
  simp only [BS, Tryz.FFbw225, rawV]
  refine step_newS allocR_new S ?_; clear S; intro h b7 S n_b7
  simp only [BS, Nat.reduceLT, Nat.reduceEqDiff, if_true, if_false, eq_self]
  refine step_u (S.store (i := 0) rfl Tryz.s27 (by intro x e; cases e) rfl (by simp only [vcells, List.all_cons, List.all_nil, fx.2.1, fy.2.1, fa.2.1, Bool.and_true]; rfl) (Nat.le_of_ble_eq_true rfl) Nat.one_ne_zero) ?_
  clear S; rintro h ⟨S, mo⟩
  simp only [List.set_cons_zero, List.set_cons_succ, vcells, lay, List.take, List.drop, List.nil_append, List.cons_append, List.append_nil, List.length_cons, List.length_nil, Nat.reduceAdd, Nat.add_zero] at S
  have ga2 := ga.mo S.fr (fun c hc hm => by have := hz c hc; simp [keys] at hm; omega)
  simp only [BS, Nat.reduceLT, Nat.reduceEqDiff, if_true, if_false, List.map_cons, List.map_nil, List.append_nil, List.nil_append, eq_self, Tryz.FFbw225, List.drop_zero, List.take_succ_cons, List.take_zero, S.lds (b := b7) (o := 0) (n := 4) (by first | exact m0 | exact m1 | exact m2 | exact m3 | exact m4 | exact m5 | exact m6 | exact m7) (Nat.le_of_ble_eq_true rfl)]
  have q7 := (S.row (b := b7) m0).lt S.ok
  have q2 := (S.row (b := b2) m1).lt S.ok
  have q1 := (S.row (b := b1) m2).lt S.ok
  refine step_ret (netNew_ok S.ok hγ ga2) ?_
  rintro v h ⟨p, rfl, g, hp⟩
  replace S := S.call g
  replace ga2 := ga2.gr g
  clear g
  obtain ⟨bp, rfl⟩ : ∃ b, p = ptrTo b := by obtain ⟨b, _, _, _, _, _, e, _⟩ := hp.ex; exact ⟨b, e⟩
  replace S := S0.rebase S
  have gS2 := S.gr
  have r1 := S.row (b := b1) m2
  have r2 := S.row (b := b2) m1
  have r7 := S.row (b := b7) m0
  have lt1' := r1.lt S.ok
  have lt2' := r2.lt S.ok
  have lt7' := r7.lt S.ok
  have okC := S.ok
  have ge2 := n_b2
  clear S0
  replace S := S.base
  simp only [keys, List.map_cons, List.map_nil, List.filterMap_nil, List.append_nil] at S
  simp only [BS, Nat.add_zero, Nat.reduceLT, Nat.reduceEqDiff, if_true, if_false, eq_self, Tryz.FFbw225, S.ld (b := b7) (o := 0) (by first | exact m0 | exact m1 | exact m2 | exact m3 | exact m4 | exact m5 | exact m6 | exact m7) rfl]
  refine step_newS (mk_new (by first | exact Tryz.u22 | exact Tryz.u23 | exact Tryz.u24 | exact Tryz.u25 | exact Tryz.u31 | exact Tryz.u126) (by first | exact Tryz.e2E | exact Tryz.e3E | exact Tryz.e5E | exact Tryz.e31E | exact Tryz.e41E | exact Tryz.e51E) (by omega) (by omega)) S ?_; clear S; intro h bs S n_bs
  rw [Int.toNat_natCast, repL_rep, show List.replicate γ.nodes (Value.int .i64 0) = (List.range γ.nodes).map fun v => Value.int .i64 (((fun _ => 0 : Nat → Nat) v : Nat) : Int) from by rw [List.map_const', List.length_range]; rfl] at S
  replace S := S.nilG (k := 1)
  simp only [BS, Nat.reduceLT, Nat.reduceEqDiff, if_true, if_false, eq_self, Int.toNat_natCast]
  rename Hp => hC0
  have hAb : ∀ c, blkOf vA c → c < h0.n := fun c hc => hA.sl.lt ok hc
  have hMb : ∀ c, blkOf vM c → c < h0.n := fun c hc => hM.sl.lt ok hc
  have nb : ∀ c, c < h0.n → ¬ c ∈ [b7, b2, b1] := fun c hc hm => by
    simp only [List.mem_cons, List.not_mem_nil, or_false] at hm
    have := gS.n
    omega
  refine loop_cut (fun ρ h' => ∃ (vR : Value) (l : List Int) (cs : List Value), St (· ∈ [b7, b2, b1]) h h' [(bs, .row cs 1), (b7, .row [.int .i64 γ.nodes, vx, vy, va] 1), (b2, .row [.int .i64 0, .slice none 0 0, .slice none 0 0, .slice none 0 0] 1), (b1, .row [vB, vM, vA, vN, .int .i8 sI, .int .i8 wI] 1)] [(vR, 1, ints l)] ∧ MayL γ.nodes l ∧ l.length ≤ 6 ∧
      ρ 1 = ptrTo b1 ∧ ρ 2 = ptrTo b2 ∧ ρ 7 = ptrTo b7 ∧ ρ 8 = ptrTo bp ∧ ρ 10 = vR ∧ ρ 11 = .slice none 0 0)
    (fun (i : Nat) ρ h' => i ≤ ms.length ∧ i ≤ 6 ∧ ∃ (vR : Value) (l : List Int) (cnt : Nat → Nat), St (· ∈ [b7, b2, b1]) h h' [(bs, .row ((List.range γ.nodes).map fun v => .int .i64 ((cnt v : Nat) : Int)) 1), (b7, .row [.int .i64 γ.nodes, vx, vy, va] 1), (b2, .row [.int .i64 0, .slice none 0 0, .slice none 0 0, .slice none 0 0] 1), (b1, .row [vB, vM, vA, vN, .int .i8 sI, .int .i8 wI] 1)] [(vR, 1, ints l)] ∧ MayL γ.nodes l ∧ l.length ≤ i ∧ (∀ v, v < γ.nodes → cnt v ≤ i ∧ (cnt v = 0 ↔ (v : Int) ∉ l)) ∧
      ρ 1 = ptrTo b1 ∧ ρ 2 = ptrTo b2 ∧ ρ 7 = ptrTo b7 ∧ ρ 8 = ptrTo bp ∧ ρ 10 = vR ∧ ρ 11 = .slice none 0 0 ∧ ρ 12 = .slice (some ⟨bs, 0, none⟩) γ.nodes γ.nodes ∧ ρ 13 = .int .i64 i) (fun i => ms.length - i) ?_ ?_ 0 ?_
  · clear S
    intro i ih ρ h' ⟨hi, hi6, vR, l, cnt, S, hl, hli, hc, r1, r2, r7, r8, r10, r11, r12, r13⟩
    have hM' := (hM.sl.gr gS2).mo S.fr (fun c hc => nb c (hMb c hc))
    have fin : ∀ (n : Nat) (d : List Deferred) (rc : Option (Value × Bool)) (ρ' : Nat → Value), ρ' 1 = ptrTo b1 → ρ' 2 = ptrTo b2 → ρ' 7 = ptrTo b7 → ρ' 8 = ptrTo bp → ρ' 10 = vR → ρ' 11 = .slice none 0 0 → JP n d rc (fun ρ h' => ∃ (vR : Value) (l : List Int) (cs : List Value), St (· ∈ [b7, b2, b1]) h h' [(bs, .row cs 1), (b7, .row [.int .i64 γ.nodes, vx, vy, va] 1), (b2, .row [.int .i64 0, .slice none 0 0, .slice none 0 0, .slice none 0 0] 1), (b1, .row [vB, vM, vA, vN, .int .i8 sI, .int .i8 wI] 1)] [(vR, 1, ints l)] ∧ MayL γ.nodes l ∧ l.length ≤ 6 ∧
      ρ 1 = ptrTo b1 ∧ ρ 2 = ptrTo b2 ∧ ρ 7 = ptrTo b7 ∧ ρ 8 = ptrTo bp ∧ ρ 10 = vR ∧ ρ 11 = .slice none 0 0) .normal (LL n ρ' d rc) h' := fun n d rc ρ' e1 e2 e7 e8 e10 e11 => jp_normal ⟨vR, l, _, S, hl, by omega, e1, e2, e7, e8, e10, e11⟩
    by_cases hlt : i < ms.length
    · by_cases h6 : i < 6
      · have c6 : (i : Int) < 6 := by omega
        obtain ⟨c, o, hidx, hld⟩ := hM'.ix (kd := .i64) (encI_len .u8) hlt
        have hx := hMr _ (List.getElem_mem hlt)
        obtain ⟨x, ex⟩ : ∃ x : Nat, ms[i] = x := ⟨ms[i].toNat, by omega⟩
        rw [ex] at hld hx
        have wc : wrapI .i64 (x : Int) = (x : Int) := by rw [wrap64] <;> omega
        have nz : (γ.nodes : Int) ≠ 0 := by omega
        have tm : (x : Int).tmod (γ.nodes : Int) = ((x % γ.nodes : Nat) : Int) := by rw [Int.tmod_eq_emod_of_nonneg (by omega)]; exact (Int.natCast_emod _ _).symm
        have hmod : x % γ.nodes < γ.nodes := Nat.mod_lt _ (by omega)
        have w : wrapI .i64 ((i : Int) + 1) = ((i + 1 : Nat) : Int) := by rw [wrap64] <;> omega
        simp only [BS, Nat.reduceLT, Nat.reduceEqDiff, if_true, if_false, List.getElem?_cons_zero, List.getElem?_cons_succ, Nat.zero_add, decide_true, eq_self, Tryz.FFbw225, r1, r13, hM.sl.lenq, lt_nat, hlt, c6, S.ld (b := b1) (o := 1) (by first | exact m0 | exact m1 | exact m2 | exact m3 | exact m4 | exact m5 | exact m6 | exact m7) rfl]
        refine draw_step (hoist_no rfl) (q := 0) (ps := []) (by kernel_rfl) ?_
        simp only [BS, convV, convKind, convP, cls, Nat.add_zero, Nat.reduceLT, Nat.reduceEqDiff, Nat.reduceAdd, if_true, if_false, Nat.reducePow, Nat.reduceDiv, Nat.reduceMod, Nat.reduceLeDiff, Bool.and_false, Nat.zero_add, true_and, decide_false, eq_self, Tryz.FFbw225, r1, r7, r12, r13, hidx, hld, encI, wc, b_rem nz, tm, S.ld (b := b7) (o := 0) (by first | exact m0 | exact m1 | exact m2 | exact m3 | exact m4 | exact m5 | exact m6 | exact m7) rfl, S.ld (b := b1) (o := 1) (by first | exact m0 | exact m1 | exact m2 | exact m3 | exact m4 | exact m5 | exact m6 | exact m7) rfl]
        generalize x % γ.nodes = v at hmod
        obtain ⟨cle, ciff⟩ := hc v hmod
        have lc := S.ld (b := bs) (o := v) m0 (mapr_at (F := fun v => Value.int .i64 ((cnt v : Nat) : Int)) hmod)
        have w2 : wrapI .i64 ((cnt v : Int) + 1) = ((cnt v + 1 : Nat) : Int) := by rw [wrap64] <;> omega
        have setc : ((List.range γ.nodes).map fun v => Value.int .i64 ((cnt v : Nat) : Int)).set v (.int .i64 ((cnt v + 1 : Nat) : Int)) = (List.range γ.nodes).map fun u => Value.int .i64 (((if u = v then cnt v + 1 else cnt u : Nat) : Nat) : Int) := by
          have := mapr_set (N := γ.nodes) (k := v) (F := fun v => Value.int .i64 ((cnt v : Nat) : Int)) (F' := fun u => Value.int .i64 (((if u = v then cnt v + 1 else cnt u : Nat) : Nat) : Int)) (fun u _ hu => by simp [hu])
          rw [← this]; simp
        clear hM' fin
        by_cases hz : cnt v = 0
        · have hz' : ((cnt v : Nat) : Int) = 0 := by omega
          simp only [BS, Nat.reduceLT, Nat.reduceEqDiff, if_true, if_false, List.map_cons, List.map_nil, Nat.mul_one, Nat.zero_add, decide_true, eq_self, Tryz.FFbw225, r10, hmod, lc, hz']
          refine step_newS (bs_new (by first | exact Tryz.u22 | exact Tryz.u23 | exact Tryz.u24 | exact Tryz.u25 | exact Tryz.u31 | exact Tryz.u126) (by first | exact Tryz.e2E | exact Tryz.e3E | exact Tryz.e5E | exact Tryz.e31E | exact Tryz.e41E | exact Tryz.e51E) (by decide) (by first | rfl | exact fillE )) S ?_; clear S; intro h bt S n_bt; simp only [repL, setL, vcells, List.cons_append, List.nil_append, List.append_nil, List.set_cons_zero, List.set_cons_succ, Nat.reduceMul, Nat.reduceAdd, Nat.zero_mul, Nat.zero_add, Nat.mul_one, Nat.one_mul] at S
          simp only [BS, Nat.reduceLT, Nat.reduceEqDiff, if_true, if_false, eq_self]
          have src : srcCells h 1 (.slice (some ⟨bt, 0, none⟩) 1 1) = some (1, ints [(v : Int)]) := by simp only [srcCells]; rw [S.lds (b := bt) (o := 0) (n := 1 * 1) m0 (Nat.le_of_ble_eq_true rfl)]; rfl
          replace S := S.drop1
          refine step_v (S.grow (j := 0) (m := 1) (new := ints [(v : Int)]) rfl Tryz.u31 Tryz.e3E (by decide) Tryz.n31 src rfl (by decide) rfl (by rw [ints_len, ints_len]; simp; omega)) ?_
          clear S src; rintro h vR' S
          simp only [List.set_cons_zero] at S
          rw [← ints_app] at S
          have lc := S.ld (b := bs) (o := v) m0 (mapr_at (F := fun v => Value.int .i64 ((cnt v : Nat) : Int)) hmod)
          simp only [BS, Nat.reduceLT, Nat.reduceEqDiff, if_true, if_false, Nat.mul_one, Nat.zero_add, eq_self, Tryz.FFbw225, r12, hmod, lc, w2]
          refine step_u (store_fl S (i := 0) rfl Tryz.s3 fl_int (by simpa using hmod) Nat.one_ne_zero) ?_
          clear S lc; rintro h ⟨S, _⟩
          simp only [List.set_cons_zero] at S
          rw [setc] at S
          simp only [BS, Nat.reduceLT, Nat.reduceEqDiff, if_true, if_false, eq_self, r13, w]
          refine ih (i + 1) _ _ (by omega) ⟨by omega, by omega, _, l ++ [(v : Int)], fun u => if u = v then cnt v + 1 else cnt u, S, hl.push (by omega) (by omega) (by omega) (ciff.1 hz), by simp; omega, fun u hu => ?_, by simp [setR, r1, ptr_eq], by simp [setR, r2, ptr_eq], by simp [setR, r7, ptr_eq], by simp [setR, r8, ptr_eq], by simp [setR], by simp [setR, r11], by simp [setR, r12], by simp [setR]⟩
          have := hc u hu
          by_cases e : u = v
          · subst e; simp; omega
          · have e' : ¬ ((u : Int) = (v : Int)) := by omega
            simp only [e, if_false, List.mem_append, List.mem_singleton, e', or_false]
            exact ⟨by omega, this.2⟩
        · have hz' : ¬ ((cnt v : Nat) : Int) = 0 := by omega
          simp only [BS, Nat.reduceLT, Nat.reduceEqDiff, if_true, if_false, Nat.mul_one, Nat.zero_add, decide_false, eq_self, Tryz.FFbw225, r12, hmod, lc, hz', w2]
          refine step_u (store_fl S (i := 0) rfl Tryz.s3 fl_int (by simpa using hmod) Nat.one_ne_zero) ?_
          clear S lc; rintro h ⟨S, _⟩
          simp only [List.set_cons_zero] at S
          rw [setc] at S
          simp only [BS, Nat.reduceLT, Nat.reduceEqDiff, if_true, if_false, eq_self, r13, w]
          refine ih (i + 1) _ _ (by omega) ⟨by omega, by omega, _, l, fun u => if u = v then cnt v + 1 else cnt u, S, hl, by omega, fun u hu => ?_, by simp [setR, r1, ptr_eq], by simp [setR, r2, ptr_eq], by simp [setR, r7, ptr_eq], by simp [setR, r8, ptr_eq], by simp [setR, r10], by simp [setR, r11], by simp [setR, r12], by simp [setR]⟩
          have := hc u hu
          by_cases e : u = v
          · subst e
            simp only [if_true]
            exact ⟨by omega, by constructor <;> intro h <;> first | omega | exact absurd (this.2.2 h) hz⟩
          · simp only [e, if_false]; exact ⟨by omega, this.2⟩
      · have c6 : ¬ (i : Int) < 6 := by omega
        simp only [BS, Nat.reduceLT, Nat.reduceEqDiff, if_true, if_false, List.getElem?_cons_zero, List.getElem?_cons_succ, Nat.zero_add, decide_true, decide_false, eq_self, Tryz.FFbw225, r1, r13, hM.sl.lenq, lt_nat, hlt, c6, S.ld (b := b1) (o := 1) (by first | exact m0 | exact m1 | exact m2 | exact m3 | exact m4 | exact m5 | exact m6 | exact m7) rfl]
        exact fin _ _ _ _ (by simp [setR, r1, ptr_eq]) (by simp [setR, r2, ptr_eq]) (by simp [setR, r7, ptr_eq]) (by simp [setR, r8, ptr_eq]) (by simp [setR, r10]) (by simp [setR, r11])
    · simp only [BS, Nat.reduceLT, Nat.reduceEqDiff, if_true, if_false, List.getElem?_cons_zero, List.getElem?_cons_succ, Nat.zero_add, decide_false, eq_self, Tryz.FFbw225, r1, r13, hM.sl.lenq, lt_nat, hlt, S.ld (b := b1) (o := 1) (by first | exact m0 | exact m1 | exact m2 | exact m3 | exact m4 | exact m5 | exact m6 | exact m7) rfl]
      exact fin _ _ _ _ (by simp [setR, r1, ptr_eq]) (by simp [setR, r2, ptr_eq]) (by simp [setR, r7, ptr_eq]) (by simp [setR, r8, ptr_eq]) (by simp [setR, r10]) (by simp [setR, r11])
  · clear S
    intro ρ h' ⟨vR, l, cs, S, hl, hl6, r1, r2, r7, r8, r10, r11⟩
    replace S := S.nilG (k := 1)
    simp only [BS]
    refine loop_cut (fun ρ h' => ∃ (vC : Value) (act : List Int), St (· ∈ [b7, b2, b1]) h h' [(bs, .row cs 1), (b7, .row [.int .i64 γ.nodes, vx, vy, va] 1), (b2, .row [.int .i64 0, .slice none 0 0, .slice none 0 0, .slice none 0 0] 1), (b1, .row [vB, vM, vA, vN, .int .i8 sI, .int .i8 wI] 1)] [(vC, 1, ints act), (vR, 1, ints l)] ∧ act.length ≤ 8 ∧ ρ 1 = ptrTo b1 ∧ ρ 2 = ptrTo b2 ∧ ρ 7 = ptrTo b7 ∧ ρ 8 = ptrTo bp ∧ ρ 10 = vR ∧ ρ 11 = vC)
      (fun (i : Nat) ρ h' => i ≤ as_.length ∧ i ≤ 8 ∧ ∃ (vC : Value) (act : List Int), St (· ∈ [b7, b2, b1]) h h' [(bs, .row cs 1), (b7, .row [.int .i64 γ.nodes, vx, vy, va] 1), (b2, .row [.int .i64 0, .slice none 0 0, .slice none 0 0, .slice none 0 0] 1), (b1, .row [vB, vM, vA, vN, .int .i8 sI, .int .i8 wI] 1)] [(vC, 1, ints act), (vR, 1, ints l)] ∧ act.length = i ∧ ρ 1 = ptrTo b1 ∧ ρ 2 = ptrTo b2 ∧ ρ 7 = ptrTo b7 ∧ ρ 8 = ptrTo bp ∧ ρ 10 = vR ∧ ρ 11 = vC ∧ ρ 15 = .int .i64 i) (fun i => as_.length - i) ?_ ?_ 0 ?_
    · clear S
      intro i ih ρ h' ⟨hi, hi8, vC, act, S, hact, r1, r2, r7, r8, r10, r11, r15⟩
      have hA' := (hA.sl.gr gS2).mo S.fr (fun c hc => nb c (hAb c hc))
      have fin : ∀ (n : Nat) (d : List Deferred) (rc : Option (Value × Bool)) (ρ' : Nat → Value), ρ' 1 = ptrTo b1 → ρ' 2 = ptrTo b2 → ρ' 7 = ptrTo b7 → ρ' 8 = ptrTo bp → ρ' 10 = vR → ρ' 11 = vC → JP n d rc (fun ρ h' => ∃ (vC : Value) (act : List Int), St (· ∈ [b7, b2, b1]) h h' [(bs, .row cs 1), (b7, .row [.int .i64 γ.nodes, vx, vy, va] 1), (b2, .row [.int .i64 0, .slice none 0 0, .slice none 0 0, .slice none 0 0] 1), (b1, .row [vB, vM, vA, vN, .int .i8 sI, .int .i8 wI] 1)] [(vC, 1, ints act), (vR, 1, ints l)] ∧ act.length ≤ 8 ∧ ρ 1 = ptrTo b1 ∧ ρ 2 = ptrTo b2 ∧ ρ 7 = ptrTo b7 ∧ ρ 8 = ptrTo bp ∧ ρ 10 = vR ∧ ρ 11 = vC) .normal (LL n ρ' d rc) h' := fun n d rc ρ' e1 e2 e7 e8 e10 e11 => jp_normal ⟨vC, act, S, by omega, e1, e2, e7, e8, e10, e11⟩
      by_cases hlt : i < as_.length
      · by_cases h8 : i < 8
        · have c8 : (i : Int) < 8 := by omega
          obtain ⟨c, o, hidx, hld⟩ := hA'.ix (kd := .i64) (encI_len .i8) hlt
          have hx := hAr _ (List.getElem_mem hlt)
          have wc : wrapI .i64 as_[i] = as_[i] := by rw [wrap64] <;> omega
          have w : wrapI .i64 ((i : Int) + 1) = ((i + 1 : Nat) : Int) := by rw [wrap64] <;> omega
          simp only [BS, convV, convKind, convP, Nat.reduceLT, Nat.reduceEqDiff, if_true, if_false, List.map_cons, List.map_nil, List.getElem?_cons_zero, List.getElem?_cons_succ, Nat.zero_add, decide_true, eq_self, Tryz.FFbw225, r1, r11, r15, hA.sl.lenq, lt_nat, hlt, c8, hidx, hld, encI, wc, b_rem (n := 8) (by decide), S.ld (b := b1) (o := 2) (by first | exact m0 | exact m1 | exact m2 | exact m3 | exact m4 | exact m5 | exact m6 | exact m7) rfl]
          refine step_newS (bs_new (by first | exact Tryz.u22 | exact Tryz.u23 | exact Tryz.u24 | exact Tryz.u25 | exact Tryz.u31 | exact Tryz.u126) (by first | exact Tryz.e2E | exact Tryz.e3E | exact Tryz.e5E | exact Tryz.e31E | exact Tryz.e41E | exact Tryz.e51E) (by decide) (by first | rfl | exact fillE )) S ?_; clear S; intro h bt S n_bt; simp only [repL, setL, vcells, List.cons_append, List.nil_append, List.append_nil, List.set_cons_zero, List.set_cons_succ, Nat.reduceMul, Nat.reduceAdd, Nat.zero_mul, Nat.zero_add, Nat.mul_one, Nat.one_mul] at S
          simp only [BS, Nat.reduceLT, Nat.reduceEqDiff, if_true, if_false, eq_self]
          have src : srcCells h 1 (.slice (some ⟨bt, 0, none⟩) 1 1) = some (1, ints [as_[i].tmod 8]) := by simp only [srcCells]; rw [S.lds (b := bt) (o := 0) (n := 1 * 1) m0 (Nat.le_of_ble_eq_true rfl)]; rfl
          replace S := S.drop1
          refine step_v (S.grow (j := 0) (m := 1) (new := ints [as_[i].tmod 8]) rfl Tryz.u31 Tryz.e3E (by decide) Tryz.n31 src rfl (by decide) rfl (by rw [ints_len, ints_len]; simp; omega)) ?_
          clear S src fin hA'; rintro h vC' S
          simp only [List.set_cons_zero] at S
          rw [← ints_app] at S
          simp only [BS, Nat.reduceLT, Nat.reduceEqDiff, if_true, if_false, eq_self, r15, w]
          exact ih (i + 1) _ _ (by omega) ⟨by omega, by omega, _, act ++ [as_[i].tmod 8], S, by simp [hact], by simp [setR, r1, ptr_eq], by simp [setR, r2, ptr_eq], by simp [setR, r7, ptr_eq], by simp [setR, r8, ptr_eq], by simp [setR, r10], by simp [setR], by simp [setR]⟩
        · have c8 : ¬ (i : Int) < 8 := by omega
          simp only [BS, Nat.reduceLT, Nat.reduceEqDiff, if_true, if_false, List.getElem?_cons_zero, List.getElem?_cons_succ, Nat.zero_add, decide_true, decide_false, eq_self, Tryz.FFbw225, r1, r15, hA.sl.lenq, lt_nat, hlt, c8, S.ld (b := b1) (o := 2) (by first | exact m0 | exact m1 | exact m2 | exact m3 | exact m4 | exact m5 | exact m6 | exact m7) rfl]
          exact fin _ _ _ _ (by simp [setR, r1, ptr_eq]) (by simp [setR, r2, ptr_eq]) (by simp [setR, r7, ptr_eq]) (by simp [setR, r8, ptr_eq]) (by simp [setR, r10]) (by simp [setR, r11])
      · simp only [BS, Nat.reduceLT, Nat.reduceEqDiff, if_true, if_false, List.getElem?_cons_zero, List.getElem?_cons_succ, Nat.zero_add, decide_false, eq_self, Tryz.FFbw225, r1, r15, hA.sl.lenq, lt_nat, hlt, S.ld (b := b1) (o := 2) (by first | exact m0 | exact m1 | exact m2 | exact m3 | exact m4 | exact m5 | exact m6 | exact m7) rfl]
        exact fin _ _ _ _ (by simp [setR, r1, ptr_eq]) (by simp [setR, r2, ptr_eq]) (by simp [setR, r7, ptr_eq]) (by simp [setR, r8, ptr_eq]) (by simp [setR, r10]) (by simp [setR, r11])
    · clear S
      intro ρ h' ⟨vC, act, S, hact, r1, r2, r7, r8, r10, r11⟩
      simp only [BS, Nat.reduceLT, Nat.reduceEqDiff, if_true, if_false, eq_self, Tryz.FFbw225, r2, r7, r8, r10, r11, List.drop_zero, List.take_succ_cons, List.take_zero, S.lds (b := b7) (o := 0) (n := 4) (by first | exact m0 | exact m1 | exact m2 | exact m3 | exact m4 | exact m5 | exact m6 | exact m7) (Nat.le_of_ble_eq_true rfl)]
      refine step_u (S.store (i := 2) rfl Tryz.s27 (by intro x e; cases e) rfl (by simp only [vcells, List.all_cons, List.all_nil, fx.2.1, fy.2.1, fa.2.1, Bool.and_true]; rfl) (Nat.le_of_ble_eq_true rfl) Nat.one_ne_zero) ?_
      clear S; rintro h ⟨S, _⟩
      simp only [List.set_cons_zero, List.set_cons_succ, vcells, lay, List.take, List.drop, List.nil_append, List.cons_append, List.append_nil, List.length_cons, List.length_nil, Nat.reduceAdd, Nat.add_zero] at S
      simp only [BS, tupleOf, Nat.reduceLT, Nat.reduceEqDiff, if_true, if_false, eq_self]
      refine (res_cell (by decide) (by simp only [setR_at, r2, ptr_eq, Nat.reduceEqDiff, reduceIte]; exact loadV_aggr Tryz.a27 Tryz.s27 (S.lds (b := b2) (o := 0) (n := 4) m2 (Nat.le_of_ble_eq_true rfl)))).2 ?_
      refine (res_tmp (by decide)).2 ((res_tmp (by decide)).2 ((res_tmp (by decide)).2 (res_nil.2 ?_)))
      have slC : SlAt h 1 (encI .i64) vC act := (S.gown _ m0).1.sl rfl (fun _ => rfl) (by decide)
      have slR : SlAt h 1 (encI .i64) vR l := (S.gown _ m1).1.sl rfl (fun _ => rfl) (by decide)
      refine ⟨(gS2.fr.trans S.fr (fun c hc => .inr ?_) : Mo NoM h0 h).gr, γ, vx, vy, va, ptrTo bp, vR, vC, l, act, _, rfl, hγ, ga2.mo S.fr (fun c hc hm => ?_), hp.mo S.fr (fun c hm => ?_), slR, hl, hl6, slC, hact, ?_⟩
      · simp only [List.mem_cons, List.not_mem_nil, or_false] at hc
        have := gS.n
        omega
      · have k1 := hz c hc
        have k2 : c < b7 := by
          refine Nat.lt_of_lt_of_le ?_ n_b7
          rcases hc with hc | hc | hc
          · exact ga.X.lt gS.ok hc
          · exact ga.Y.lt gS.ok hc
          · exact ga.A.lt gS.ok hc
        simp only [List.mem_cons, List.not_mem_nil, or_false] at hm
        omega
      · simp only [List.mem_cons, List.not_mem_nil, or_false] at hm
        omega
      · rcases (S.gown _ m0).1 with ⟨e1, e2⟩ | ⟨b, n, e1, e2, _⟩
        · have e2' : ints act = [] := e2
          exact .inl ⟨e1, List.length_eq_zero_iff.1 (by rw [← ints_len, e2']; rfl)⟩
        · have e2' : n * 1 = (ints act).length := e2
          rw [ints_len] at e2'
          have : n = act.length := by omega
          subst this
          exact .inr ⟨b, e1⟩
    · exact ⟨Nat.zero_le _, Nat.zero_le _, _, [], S, rfl, by simp [setR, r1, ptr_eq], by simp [setR, r2, ptr_eq], by simp [setR, r7, ptr_eq], by simp [setR, r8, ptr_eq], by simp [setR, r10], by simp [setR, r11], by simp [setR]⟩
  · exact ⟨Nat.zero_le _, Nat.zero_le _, _, [], fun _ => 0, S, mayL_nil _, Nat.zero_le _, fun v _ => by simp, by simp [setR, ptr_eq], by simp [setR, ptr_eq], by simp [setR, ptr_eq], by simp [setR, ptr_eq], by simp [setR], by simp [setR], by simp [setR], by simp [setR]⟩
end Go.Ab

end
section
/- The law BoundLow, run. -/
set_option maxHeartbeats 4000000
set_option linter.unusedSimpArgs false
set_option linter.unusedVariables false
namespace Go.Ab
open Go.Proofs
set_option maxRecDepth 10000
set_option linter.defProp false
open Tryz in
def Tryz.FFbw36 := aj a1 <| aj s1 <| aj z1 <| aj n1 <| aj u2 <| aj a2 <| aj s2 <| aj z2 <| aj i2 <| aj u3 <| aj a3 <| aj s3 <| aj z3 <| aj i3 <| aj u4 <| aj a4 <| aj s4 <| aj z4 <| aj n4 <| aj u5 <| aj a5 <| aj s5 <| aj z5 <| aj i5 <| aj u6 <| aj a6 <| aj s6 <| aj z6 <| aj i6 <| aj a7 <| aj s7 <| aj z7 <| aj i7 <| aj n7 <| aj p7 <| aj ff7 <| aj d7 <| aj a8 <| aj s8 <| aj z8 <| aj i8 <| aj n8 <| aj p8 <| aj ff8 <| aj d8 <| aj u9 <| aj a9 <| aj s9 <| aj z9 <| aj n9 <| aj u10 <| aj a10 <| aj s10 <| aj z10 <| aj n10 <| aj u11 <| aj a11 <| aj s11 <| aj z11 <| aj n11 <| aj u12 <| aj a12 <| aj s12 <| aj z12 <| aj i12 <| aj a13 <| aj s13 <| aj z13 <| aj i13 <| aj n13 <| aj p13 <| aj ff13 <| aj d13 <| aj a14 <| aj s14 <| aj z14 <| aj i14 <| aj n14 <| aj p14 <| aj ff14 <| aj d14 <| aj u15 <| aj a15 <| aj s15 <| aj z15 <| aj q15 <| aj i15 <| aj n15 <| aj u16 <| aj a16 <| aj s16 <| aj z16 <| aj q16 <| aj i16 <| aj n16 <| aj u17 <| aj a17 <| aj s17 <| aj z17 <| aj q17 <| aj i17 <| aj n17 <| aj a18 <| aj s18 <| aj z18 <| aj i18 <| aj n18 <| aj p18 <| aj ff18 <| aj d18 <| aj a19 <| aj s19 <| aj z19 <| aj i19 <| aj n19 <| aj p19 <| aj ff19 <| aj d19 <| aj a20 <| aj s20 <| aj z20 <| aj q20 <| aj n20 <| aj u21 <| aj a21 <| aj s21 <| aj z21 <| aj i21 <| aj u22 <| aj a22 <| aj s22 <| aj z22 <| aj q22 <| aj n22 <| aj u23 <| aj a23 <| aj s23 <| aj z23 <| aj q23 <| aj n23 <| aj u24 <| aj a24 <| aj s24 <| aj z24 <| aj q24 <| aj n24 <| aj u25 <| aj a25 <| aj s25 <| aj z25 <| aj q25 <| aj n25 <| aj a27 <| aj s27 <| aj z27 <| aj i27 <| aj n27 <| aj p27 <| aj ff27 <| aj d27 <| aj u29 <| aj a29 <| aj s29 <| aj z29 <| aj q29 <| aj i29 <| aj n29 <| aj u31 <| aj a31 <| aj s31 <| aj z31 <| aj q31 <| aj n31 <| aj u32 <| aj a32 <| aj s32 <| aj z32 <| aj q32 <| aj i32 <| aj n32 <| aj u34 <| aj a34 <| aj s34 <| aj z34 <| aj q34 <| aj n34 <| aj u41 <| aj a41 <| aj s41 <| aj z41 <| aj i41 <| aj a48 <| aj s48 <| aj z48 <| aj i48 <| aj n48 <| aj p48 <| aj ff48 <| aj d48 <| aj a51 <| aj s51 <| aj z51 <| aj i51 <| aj n51 <| aj p51 <| aj ff51 <| aj d51 <| aj a60 <| aj s60 <| aj z60 <| aj i60 <| aj n60 <| aj p60 <| aj ff60 <| aj d60 <| aj a86 <| aj s86 <| aj z86 <| aj i86 <| aj n86 <| aj p86 <| aj ff86 <| aj d86 <| aj u126 <| aj a126 <| aj s126 <| aj z126 <| aj q126 <| aj n126 <| aj a128 <| aj s128 <| aj z128 <| aj i128 <| aj n128 <| aj p128 <| aj ff128 <| aj d128 <| aj u199 <| aj a199 <| aj s199 <| aj z199 <| aj i199 <| aj u203 <| aj a203 <| aj s203 <| aj z203 <| aj i203 <| aj a237 <| aj s237 <| aj z237 <| aj i237 <| aj n237 <| aj p237 <| aj ff237 <| aj d237 <| aj u238 <| aj a238 <| aj s238 <| aj z238 <| aj n238 <| aj a240 <| aj s240 <| aj z240 <| aj i240 <| aj n240 <| aj u242 <| aj a242 <| aj s242 <| aj z242 <| aj i242 <| aj a243 <| aj s243 <| aj z243 <| aj n243 <| aj u244 <| aj a244 <| aj s244 <| aj z244 <| aj q244 <| aj i244 <| aj n244 <| aj u245 <| aj a245 <| aj s245 <| aj z245 <| aj i245 <| aj u246 <| aj a246 <| aj s246 <| aj z246 <| aj i246 <| aj a248 <| aj s248 <| aj z248 <| aj i248 <| aj n248 <| aj p248 <| aj ff248 <| d248
theorem worksB_ok {h0 : Hp} (ok : h0.t.Sized h0.n) : Pure Tryz.abEnv 24 [] h0 (.bool true) := ret_orc rfl ⟨rfl, Gr.refl ok⟩
theorem extr_3 {a b c d : Value} {l : List Value} : extrR 3 (.tuple ⟨a :: b :: c :: d :: l⟩) = some d := rfl
theorem lowD_nat {a b : Nat} (ha : a ≤ 72057594037927936) (hb : b ≤ 72057594037927936) : lowD (a : Int) (b : Int) = if b < 72057594037927936 then (if a < 72057594037927936 then max 0 ((a : Int) - b) else 72057594037927936) else 0 := by
  unfold lowD wy
  repeat' split
  all_goals omega
theorem seen_back (A : List Arc) : ∀ a ∈ seen A Arc.s Arc.t, ∃ b ∈ seen A Arc.t Arc.s, b.s = a.t ∧ b.t = a.s ∧ b.w = a.w := by
  intro a ha
  obtain ⟨i, hi, e⟩ := seen_mem ha
  have e1 := (seen_at (fs := Arc.s) (ft := Arc.t) hi).1
  obtain ⟨e2, e3⟩ := seen_at (fs := Arc.t) (ft := Arc.s) hi
  refine ⟨_, e3, ?_⟩
  rw [e2, ← e, e1]
  exact ⟨rfl, rfl, rfl⟩
section
variable {γ : Gra} {l : List Int}
theorem lowD_self (x : Int) : lowD x x = 0 := by
  unfold lowD wy
  repeat' split
  all_goals omega
theorem bound_self {n : Nat} {N : Nat} {R Q : Nat → List Int} {i v : Int} : boundL N n R Q i v v = 0 := by
  unfold boundL
  split
  · rw [lowD_self, lowD_self]; rfl
  · rfl
theorem bound_le (eT : ∀ {s : Nat}, s < γ.nodes → ∀ v, IsD (seen γ.arcs Arc.t Arc.s) s v (dOf (seen γ.arcs Arc.t Arc.s) s v)) (eF : ∀ {s : Nat}, s < γ.nodes → ∀ v, IsD (seen γ.arcs Arc.s Arc.t) s v (dOf (seen γ.arcs Arc.s Arc.t) s v)) (hl : MayL γ.nodes l)
    {v w d : Nat} (hv : v < γ.nodes) (hw : w < γ.nodes) (hd : IsD (seen γ.arcs Arc.s Arc.t) v w d) (i : Int) : boundL γ.nodes l.length (toR γ l) (frR γ l) i v w ≤ d := by
  unfold boundL
  split
  · rename_i h
    obtain ⟨i, rfl⟩ := Int.eq_ofNat_of_zero_le h.2.2.1
    have hi : i < l.length := by omega
    have hm := hl.2 i hi
    obtain ⟨s, es⟩ : ∃ s : Nat, l.getD i 0 = s := ⟨(l.getD i 0).toNat, by omega⟩
    have hs : s < γ.nodes := by omega
    rw [tell_to hi hv, tell_to hi hw, tell_fr hi hv, tell_fr hi hw, es, Int.toNat_natCast]
    have hF := FAR_eq
    have a1 := (eT hs v).le
    have a2 := (eT hs w).le
    have a3 := (eF hs v).le
    have a4 := (eF hs w).le
    have a5 := hd.le
    rw [lowD_nat (by omega) (by omega), lowD_nat (by omega) (by omega)]
    have t1 := fun h1 h2 => tri_to (seen_back γ.arcs) hd (eT hs v) (eT hs w) h1 h2
    have t2 := fun h1 h2 => tri_fr hd (eF hs v) (eF hs w) h1 h2
    by_cases hdf : d < FAR
    · have t1 := t1 hdf
      have t2 := t2 hdf
      refine Int.max_le.2 ⟨?_, ?_⟩
      · split
        · have := t1 (by omega)
          rw [if_pos (by omega)]; omega
        · omega
      · split
        · have := t2 (by omega)
          rw [if_pos (by omega)]; omega
        · omega
    · refine Int.max_le.2 ⟨?_, ?_⟩ <;> (repeat' split) <;> omega
  · omega
theorem foldl_max_le {f : Int → Int} {d : Int} (hf : ∀ i, f i ≤ d) : ∀ (l : List Int) (b : Int), b ≤ d → l.foldl (fun b i => max b (f i)) b ≤ d
  | [], b, h => h
  | x :: l, b, h => foldl_max_le hf l _ (Int.max_le.2 ⟨h, hf x⟩)
theorem best_le (eT : ∀ {s : Nat}, s < γ.nodes → ∀ v, IsD (seen γ.arcs Arc.t Arc.s) s v (dOf (seen γ.arcs Arc.t Arc.s) s v)) (eF : ∀ {s : Nat}, s < γ.nodes → ∀ v, IsD (seen γ.arcs Arc.s Arc.t) s v (dOf (seen γ.arcs Arc.s Arc.t) s v)) (hl : MayL γ.nodes l)
    {v w d : Nat} (hv : v < γ.nodes) (hw : w < γ.nodes) (hd : IsD (seen γ.arcs Arc.s Arc.t) v w d) (act : List Int) : bestL γ.nodes l.length (toR γ l) (frR γ l) v w act ≤ d :=
  foldl_max_le (bound_le eT eF hl hv hw hd) act 0 (by omega)
theorem best_self {N n : Nat} {R Q : Nat → List Int} {v : Int} (act : List Int) : bestL N n R Q v v act = 0 := by
  unfold bestL
  have : ∀ (l : List Int), l.foldl (fun b i => max b (boundL N n R Q i v v)) 0 = 0 := by
    intro l
    induction l with
    | nil => rfl
    | cons x l ih => rw [List.foldl_cons, bound_self]; exact ih
  exact this act
theorem best_mono {N n : Nat} {R Q : Nat → List Int} {v w : Int} (act : List Int) (k : Nat) : bestL N n R Q v w (act.take k) ≤ bestL N n R Q v w (act.take (k + 1)) := by
  by_cases hk : k < act.length
  · rw [List.take_succ_eq_append_getElem hk]
    unfold bestL
    rw [List.foldl_append]
    exact Int.le_max_left _ _
  · rw [List.take_of_length_le (by omega), List.take_of_length_le (by omega)]; exact Int.le_refl _
end
theorem slG_hi {h : Hp} {v : Value} {act : List Int} (g : SlG v act) (s : SlAt h 1 (encI .i64) v act) {E : Env} {t e : TypeId} (hu : E.und t = some (.slice e)) (hs : E.sz e = some 1) {k : Nat} (hk : k ≤ act.length) : ∃ v', sliceP E t v none (some (.int .i64 (k : Int))) none = some v' ∧ SlAt h 1 (encI .i64) v' (act.take k) := by
  rcases g with ⟨rfl, rfl⟩ | ⟨b, rfl⟩
  · have : k = 0 := by simpa using hk
    subst this
    refine ⟨.slice none 0 0, ?_, .inl ⟨rfl, rfl⟩⟩
    have nat : ∀ n : Nat, natOf (n : Int) = some n := fun n => rfl
    simp only [sliceP, hu, boundsP, boundP, nat, hs]
    rfl
  · refine ⟨_, slice_hi hu hs hk, ?_⟩
    rcases s with ⟨e1, _⟩ | ⟨b', o, s', c, e1, h2, h3⟩
    · cases e1
    · cases e1
      refine .inr ⟨b, 0, some 1, act.length, by rw [List.length_take, Nat.min_eq_left hk], by rw [List.length_take]; omega, ?_⟩
      rw [List.length_take, Nat.min_eq_left hk]
      have := load_sub h3 (i := 0) (m := k * 1) (by omega)
      rw [Nat.add_zero, List.drop_zero] at this
      rw [this]
      congr 1
      have e4 : ∀ l : List Int, l.flatMap (encI .i64) = l.map fun x => .int .i64 x := fun l => by
        rw [List.flatMap_eq_foldl, List.map_eq_flatMap, List.flatMap_eq_foldl]; rfl
      rw [e4, e4, Nat.mul_one, List.map_take]
theorem boundLowLaw_ok {h0 : Hp} (ok : h0.t.Sized h0.n) {vB vM vA vN : Value} {sI wI : Int} {B ms as_ : List Int} (hB : SlW h0 .u8 vB B) (hM : SlW h0 .u8 vM ms) (hMr : ∀ x ∈ ms, 0 ≤ x ∧ x ≤ 255) (hA : SlW h0 .i8 vA as_) (hAr : ∀ x ∈ as_, -128 ≤ x ∧ x ≤ 127) (fN : Fl vN) :
    Pure Tryz.abEnv 6 [.agg ⟨[vB, vM, vA, vN, .int .i8 sI, .int .i8 wI]⟩] h0 (.bool true) := by
  have S := St.init (M := NoM) ok
  have fB := hB.sl.fl
  have fM := hM.sl.fl
  have fA := hA.sl.fl
  refine enter_ret (n := 82) (rs := [.tmp 2]) rfl Tryz.e6 rfl rfl rfl (Nat.le_of_ble_eq_true rfl) ?_
  simp only [BS, Nat.reduceLT]
  refine step_newS (box_new (by intro x e; cases e)) S ?_; clear S; intro h b1 S n_b1; simp only [vcells] at S
  simp only [BS, List.map_nil, List.append_nil]
  refine step_pure (worksB_ok S.ok) ?_; intro h g; replace S := S.call g; clear g
  simp only [BS, Nat.reduceLT, Nat.reduceEqDiff, if_true, if_false, List.map_cons, List.map_nil, List.append_nil, List.nil_append, Bool.not_true, eq_self, Tryz.FFbw36, List.drop_zero, List.take_succ_cons, List.take_zero, S.lds (b := b1) (o := 0) (n := 6) (by first | exact m0 | exact m1 | exact m2 | exact m3 | exact m4 | exact m5 | exact m6 | exact m7) (Nat.le_of_ble_eq_true rfl)]
  have old : ∀ {kd v xs}, SlW h0 kd v xs → SlW h kd v xs := fun s => s.imp (fun h => h) (fun ⟨b, o, c, h1, h2, h3⟩ => ⟨b, o, c, h1, h2, S.old h3 (fun h => h)⟩)
  refine step_ret (made18_ok S.ok (old hB) (old hM) hMr (old hA) hAr fN) ?_; intro v h ⟨g, γ, vx, vy, va, pn, vl, vc, l, act, nb, er, hγ, ga, hp, sl, hl, hl6, slC, hact, gC⟩; replace S := S.call g; clear g
  subst er
  obtain ⟨bp, ep⟩ : ∃ b, pn = ptrTo b := by obtain ⟨b, _, _, _, _, _, e, _⟩ := hp.ex; exact ⟨b, e⟩
  subst ep
  have n1 := hγ.n1
  have n2 := hγ.n2
  have many := hγ.many
  have fx := ga.X.fl
  have fy := ga.Y.fl
  have fa := ga.A.fl
  have g0 := S.gr
  clear S old
  have S := St.init (M := NoM) g0.ok
  simp only [BS, Nat.reduceLT, Nat.reduceEqDiff, if_true, if_false, eq_self, Tryz.FFbw36, rawV, extr_3]
  refine step_newS allocR_new S ?_; clear S; intro h b3 S n_b3
  simp only [BS, Nat.reduceLT, Nat.reduceEqDiff, if_true, if_false, eq_self]
  refine step_u (S.store (i := 0) rfl Tryz.s27 (by intro x e; cases e) rfl (by simp only [vcells, List.all_cons, List.all_nil, fx.2.1, fy.2.1, fa.2.1, Bool.and_true]; rfl) (Nat.le_of_ble_eq_true rfl) Nat.one_ne_zero) ?_
  clear S; rintro h ⟨S, mo⟩
  simp only [List.set_cons_zero, List.set_cons_succ, vcells, lay, List.take, List.drop, List.nil_append, List.cons_append, List.append_nil, List.length_cons, List.length_nil, Nat.reduceAdd, Nat.add_zero] at S
  simp only [BS, Nat.reduceLT, Nat.reduceEqDiff, if_true, if_false, List.map_cons, List.map_nil, List.append_nil, List.nil_append, eq_self]
  replace hp := hp.gr S.gr
  replace sl := sl.gr S.gr
  replace slC := slC.gr S.gr
  refine step_ret (tabOf_ok S.ok hγ hp sl (by omega)) ?_; intro v h ⟨g, hT⟩; replace S := S.call g; replace hp := hp.gr g; replace sl := sl.gr g; replace slC := slC.gr g; clear g
  replace hT := (hT.resolve_left (fun h => h.1 hl)).2
  rename Value => pt
  obtain ⟨bt, et⟩ : ∃ b, pt = ptrTo b := by obtain ⟨b, _, _, _, e, _⟩ := hT.ex; exact ⟨b, e⟩
  subst et
  simp only [BS, Nat.reduceLT, Nat.reduceEqDiff, if_true, if_false, List.getElem?_cons_zero, List.getElem?_cons_succ, Bool.not_false, eq_self, Tryz.FFbw36]
  have r3 := (S.row (b := b3) m0).load1 (o := 0) rfl
  have g1 := g0.trans S.gr
  have okh := S.ok
  have eT := fun {s : Nat} (hs : s < γ.nodes) (v : Nat) => exTo okh hγ hp hs v
  have eF := fun {s : Nat} (hs : s < γ.nodes) (v : Nat) => exFrom okh hγ hp hs v
  have lR : ∀ i, i < l.length → (toR γ l i).length = γ.nodes := fun i _ => rowD_len _ _ _
  have lQ : ∀ i, i < l.length → (frR γ l i).length = γ.nodes := fun i _ => rowD_len _ _ _
  clear S g0 mo
  have S := St.init (M := NoM) okh
  rename Hp => hE
  refine loop_ind (fun (v : Nat) ρ h' => v ≤ γ.nodes ∧ St NoM hE h' [] [] ∧ ρ 3 = ptrTo b3 ∧ ρ 4 = ptrTo bp ∧ ρ 6 = vc ∧ ρ 7 = ptrTo bt ∧ ρ 8 = .int .i64 v) (fun v => γ.nodes - v) ?_ 0 _ _ ?_
  · clear S
    intro v ih ρ h ⟨hv, S, r3', r4, r6, r7, r8⟩
    have w : wrapI .i64 ((v : Int) + 1) = ((v + 1 : Nat) : Int) := by rw [wrap64] <;> omega
    by_cases hvt : v < γ.nodes
    · simp only [BS, Nat.add_zero, Nat.reduceLT, Nat.reduceEqDiff, if_true, if_false, List.map_cons, List.map_nil, List.append_nil, List.nil_append, decide_true, eq_self, Tryz.FFbw36, r3', r4, r8, S.old r3 (fun h => h), lt_nat, hvt]
      refine step_ret (floodFrom_ok S.ok hγ (hp.gr S.gr) hvt) ?_
      rintro vt h ⟨g, vD, vAa, vO, D, aL, O, rfl, s1, s2, s3, t4, t5, t6, t7, t8⟩
      have k1 := S.fr.n
      have f1 := s1.fl
      have f2 := s2.fl
      have f3 := s3.fl
      replace S := S.call g; clear g
      have Sx := S
      replace S := S.base
      simp only [BS, Tryz.FFbw36]
      refine step_newS allocR_new S ?_; clear S; intro h b9 S n_b9
      simp only [BS, Nat.reduceLT, Nat.reduceEqDiff, if_true, if_false, eq_self]
      refine step_u (S.store (i := 0) rfl Tryz.s48 (by intro x e; cases e) rfl (by simp only [vcells, List.all_cons, List.all_nil, f1.2.1, f2.2.1, f3.2.1, Bool.and_true]) (Nat.le_of_ble_eq_true rfl) Nat.one_ne_zero) ?_
      clear S; rintro h ⟨S, mo⟩
      simp only [List.set_cons_zero, List.set_cons_succ, vcells, lay, List.take, List.drop, List.nil_append, List.cons_append, List.append_nil, List.length_cons, List.length_nil, Nat.reduceAdd, Nat.add_zero] at S
      clear mo
      replace s1 := s1.mo S.fr (fun c hc hm => by cases hm)
      simp only [BS]
      replace S := Sx.rebase S
      have r9 := (S.row (b := b9) m0).load1 (o := 0) rfl
      have gF := S.gr
      have okF := S.ok
      clear S Sx
      rename Hp => hF
      have S := St.init (M := NoM) okF
      refine loop_ind (fun (u : Nat) ρ h' => u ≤ γ.nodes ∧ St NoM hF h' [] [] ∧ ρ 3 = ptrTo b3 ∧ ρ 4 = ptrTo bp ∧ ρ 6 = vc ∧ ρ 7 = ptrTo bt ∧ ρ 8 = .int .i64 v ∧ ρ 9 = ptrTo b9 ∧ ρ 10 = .int .i64 u) (fun u => γ.nodes - u) ?_ 0 _ _ ?_
      · clear S r3' r4 r6 r7 r8
        intro u ihu ρ h ⟨hu, S, r3', r4, r6, r7, r8, r9', r10⟩
        have wu : wrapI .i64 ((u : Int) + 1) = ((u + 1 : Nat) : Int) := by rw [wrap64] <;> omega
        by_cases hut : u < γ.nodes
        · obtain ⟨c1, o1, x1, y1⟩ := s1.ix (kd := .i64) encN_len (i := u) (by simpa using hut)
          have y1' : hF.load c1 o1 1 = some [.int .i64 (D u : Nat)] := by rw [y1]; simp [encN]
          simp only [BS, Nat.add_zero, Nat.reduceLT, Nat.reduceEqDiff, if_true, if_false, decide_true, eq_self, Tryz.FFbw36, r3', r10, S.old (gF.load r3) (fun h => h), lt_nat, hut]
          refine loop_ind (fun (k : Nat) ρ h' => k ≤ act.length + 1 ∧ St NoM hF h' [] [] ∧ ρ 3 = ptrTo b3 ∧ ρ 4 = ptrTo bp ∧ ρ 6 = vc ∧ ρ 7 = ptrTo bt ∧ ρ 8 = .int .i64 v ∧ ρ 9 = ptrTo b9 ∧ ρ 10 = .int .i64 u ∧ ρ 11 = .int .i64 (if k = 0 then 0 else bestL γ.nodes l.length (toR γ l) (frR γ l) v u (act.take (k - 1))) ∧ ρ 12 = .int .i64 k) (fun k => act.length + 1 - k) ?_ 0 _ _ ?_
          · clear S r3' r4 r6 r7 r8 r9' r10
            intro k ihk ρ h ⟨hk, S, r3', r4, r6, r7, r8, r9', r10, r11, r12⟩
            have wk : wrapI .i64 ((k : Int) + 1) = ((k + 1 : Nat) : Int) := by rw [wrap64] <;> omega
            have slE := slC.gr (gF.trans S.gr)
            by_cases hkt : k ≤ act.length
            · have hkt' : (k : Int) ≤ (act.length : Int) := by omega
              obtain ⟨vc', e1, sc'⟩ := slG_hi gC slE Tryz.u31 Tryz.s3 hkt
              have q1 : ¬ (bestL γ.nodes l.length (toR γ l) (frR γ l) v u (act.take k) < if k = 0 then 0 else bestL γ.nodes l.length (toR γ l) (frR γ l) v u (act.take (k - 1))) := by
                split
                · rename_i hk0
                  subst hk0
                  have : bestL γ.nodes l.length (toR γ l) (frR γ l) v u (act.take 0) = 0 := by simp [bestL]
                  omega
                · have := best_mono (N := γ.nodes) (n := l.length) (R := toR γ l) (Q := frR γ l) (v := v) (w := u) act (k - 1)
                  rw [show k - 1 + 1 = k by omega] at this
                  omega
              have q2 : ¬ (((D u : Nat) : Int) < bestL γ.nodes l.length (toR γ l) (frR γ l) v u (act.take k)) := by
                have := best_le eT eF hl hvt hut (t5 u) (act.take k)
                omega
              simp only [BS, Nat.reduceLT, Nat.reduceEqDiff, if_true, if_false, List.map_cons, List.map_nil, List.append_nil, List.nil_append, decide_true, Option.map_some, Option.map_none, eq_self, Tryz.FFbw36, r6, r7, r8, r10, r12, slE.lenq, hkt', e1]
              refine step_pure (bBest_ok S.ok (hT.gr (gF.trans S.gr)) lR lQ (by omega) sc' (by rw [List.length_take]; omega)) ?_
              intro h g
              replace S := S.call g; clear g
              by_cases hvu : v = u
              · subst hvu
                have q3 : bestL γ.nodes l.length (toR γ l) (frR γ l) v v (act.take k) = 0 := best_self _
                rw [q3] at q1 q2
                simp only [BS, Nat.add_zero, Nat.reduceLT, Nat.reduceEqDiff, if_true, if_false, List.getElem?_cons_zero, List.getElem?_cons_succ, Bool.not_true, Bool.not_false, decide_true, decide_false, eq_self, Tryz.FFbw36, r8, r9', r10, r11, r12, q1, S.old r9 (fun h => h), x1, S.old y1' (fun h => h), q2, q3, wk]
                exact ihk (k + 1) _ _ (by omega) ⟨by omega, S, by simp [setR, r3', ptr_eq], by simp [setR, r4, ptr_eq], by simp [setR, r6], by simp [setR, r7, ptr_eq], by simp [setR, r8], by simp [setR, r9', ptr_eq], by simp [setR, r10], by simp [setR, q3], by simp [setR]⟩
              · have hvu' : ¬ (v : Int) = (u : Int) := by omega
                simp only [BS, Nat.add_zero, Nat.reduceLT, Nat.reduceEqDiff, if_true, if_false, List.getElem?_cons_zero, List.getElem?_cons_succ, Bool.not_false, decide_false, eq_self, Tryz.FFbw36, r8, r9', r10, r11, r12, q1, S.old r9 (fun h => h), x1, S.old y1' (fun h => h), q2, hvu', wk]
                exact ihk (k + 1) _ _ (by omega) ⟨by omega, S, by simp [setR, r3', ptr_eq], by simp [setR, r4, ptr_eq], by simp [setR, r6], by simp [setR, r7, ptr_eq], by simp [setR, r8], by simp [setR, r9', ptr_eq], by simp [setR, r10], by simp [setR], by simp [setR]⟩
            · have hkt' : ¬ (k : Int) ≤ (act.length : Int) := by omega
              simp only [BS, tupleOf, Nat.reduceLT, Nat.reduceEqDiff, if_true, if_false, true_and, decide_false, eq_self, Tryz.FFbw36, r6, r8, r10, r12, slE.lenq, hkt', wu]
              exact ihu (u + 1) _ _ (by omega) ⟨by omega, S, by simp [setR, r3', ptr_eq], by simp [setR, r4, ptr_eq], by simp [setR, r6], by simp [setR, r7, ptr_eq], by simp [setR, r8], by simp [setR, r9', ptr_eq], by simp [setR]⟩
          · exact ⟨Nat.zero_le _, S, by simp [setR, r3', ptr_eq], by simp [setR, r4, ptr_eq], by simp [setR, r6], by simp [setR, r7, ptr_eq], by simp [setR, r8], by simp [setR, r9', ptr_eq], by simp [setR, r10], by simp [setR], by simp [setR]⟩
        · simp only [BS, tupleOf, Nat.add_zero, Nat.reduceLT, Nat.reduceEqDiff, if_true, if_false, true_and, decide_false, eq_self, Tryz.FFbw36, r3', r8, r10, S.old (gF.load r3) (fun h => h), lt_nat, hut, w]
          exact ih (v + 1) _ _ (by omega) ⟨by omega, (St.init (M := NoM) okh).call (gF.trans S.gr), by simp [setR, r3', ptr_eq], by simp [setR, r4, ptr_eq], by simp [setR, r6], by simp [setR, r7, ptr_eq], by simp [setR]⟩
      · exact ⟨Nat.zero_le _, S, by simp [setR, r3', ptr_eq], by simp [setR, r4, ptr_eq], by simp [setR, r6], by simp [setR, r7, ptr_eq], by simp [setR, r8], by simp [setR, ptr_eq], by simp [setR]⟩
    · simp only [BS, tupleOf, Nat.add_zero, Nat.reduceLT, Nat.reduceEqDiff, if_true, if_false, true_and, decide_false, eq_self, Tryz.FFbw36, r3', r8, S.old r3 (fun h => h), lt_nat, hvt]
      exact g1.trans S.gr
  · exact ⟨Nat.zero_le _, S, by simp [setR, ptr_eq], by simp [setR, ptr_eq], by simp [setR], by simp [setR, ptr_eq], by simp [setR]⟩
end Go.Ab

end
section
/- Slices of the world, opened. -/
namespace Go.Ab
open Go.ChangeShapes Go.WideShapes Go.RowKit
theorem rowAt_le {P : Program} {fits : TypeId → Bool} {d : Nat} {e : TypeId} {count off n : Nat} (h : rowAt P fits d e count off n = true) : off ≤ count * P.cellsOf e := by
  cases d with
  | zero => cases h
  | succ d =>
    unfold rowAt at h
    simp only [] at h
    split at h
    · cases h
    · rename_i hs
      have hpos : 0 < P.cellsOf e := by omega
      have hdm := Nat.div_add_mod off (P.cellsOf e)
      simp only [Bool.or_eq_true, Bool.and_eq_true, beq_iff_eq, decide_eq_true_eq] at h
      rcases h with ⟨⟨h1, h2⟩, _⟩ | ⟨h1, _⟩
      · have : P.cellsOf e * (off / P.cellsOf e) ≤ P.cellsOf e * count := Nat.mul_le_mul_left _ (by omega)
        rw [Nat.mul_comm count]; omega
      · have : P.cellsOf e * (off / P.cellsOf e + 1) ≤ P.cellsOf e * count := Nat.mul_le_mul_left _ (by omega)
        have hlt := Nat.mod_lt off hpos
        rw [Nat.mul_add, Nat.mul_one] at this
        rw [Nat.mul_comm count]; omega
theorem liesAt_le {P : Program} {d : Nat} : ∀ {e : TypeId} {count off : Nat} {u : TypeId} {n : Nat}, liesAt P d e count off u n = true → off ≤ count * P.cellsOf e := by
  induction d with
  | zero => intro e count off u n h; cases h
  | succ d ih =>
    intro e count off u n h
    unfold liesAt at h
    rw [Bool.or_eq_true] at h
    rcases h with h | h
    · exact rowAt_le h
    · split at h
      · exact ih h
      · cases h
theorem has_W {P : Program} {W : World} {r : _root_.Go.Reach} {base : Nat} {a : Addr} {e : TypeId} {n : Nat} (h : W.has P r base a e n) : a.spot = none ∧ a.block < W.heap.size ∧ ∃ l, (hpW W).load (a.block + 16) a.off 0 = some l := by
  obtain ⟨_, hsp, row, cells, hsh, hl⟩ := h
  have hle := liesAt_le hl
  have hle2 : a.off ≤ cells := Nat.le_trans hle (Nat.div_mul_le_self _ _)
  unfold World.shape? at hsh
  split at hsh
  next cs el fz ho =>
    cases hsh
    have hlt := (Array.getElem?_eq_some_iff.1 ho).1
    have hr : Row (hpW W) (a.block + 16) (cs.toList.map (absV W.heap.size)) 0 := ⟨_, _, by rw [hpW_at, ho]; rfl, Tr.sized_ofList _, fun j => Tr.get_ofList _ j⟩
    exact ⟨hsp, hlt, _, hr.load (o := a.off) (n := 0) (by simpa using hle2)⟩
  · cases hsh
section
variable {H : Type} {enc : TypeId × Value → H} {P : Program}
theorem open_sl {W : World} {base fuel : Nat} {s e : TypeId} {k : IntKind} {c : Value} {sp : Nat → Bool} {hd : Bool} {x : DataW H × List MemPlace} (hs : P.underlying s = some (.slice e)) (he : P.underlying e = some (.int k)) (hc : P.cellsOf e = 1)
    (hok : Cell.okWide P W .any base s c) (h : DataW.trod enc P W 0 sp hd fuel s [c] = some x) : ∃ zs : List Int, SlW (hpW W) k (absV W.heap.size c) zs ∧ (∀ z ∈ zs, (Lit.int k z).wf = true) ∧ zs.length ≤ 9223372036854775807 := by
  rcases Go.ChangeShapes.open_ints hs he hc h with ⟨e1, _⟩ | ⟨a, len, cap, zs, e1, hb, hl, hm, hz, _, hcell, hwf⟩
  · cases e1
    exact ⟨[], .inl ⟨rfl, rfl⟩, fun z hz => (by cases hz), by simp⟩
  · cases e1
    unfold Cell.okWide at hok
    rw [hs] at hok
    simp only [Cell.ok, hs] at hok
    obtain ⟨hle1, hmax, hhas⟩ := hok
    obtain ⟨hsp, hlt, h0⟩ := has_W hhas
    have hlz : len ≤ zs.length := by rw [hz]; split <;> omega
    refine ⟨zs.take len, .inr ⟨a.block + 16, a.off, cap, ?_, ?_, ?_⟩, fun z hz => hwf z (List.mem_of_mem_take hz), by
      have : (cap : Int) ≤ 9223372036854775807 := hmax
      rw [List.length_take]; omega⟩
    · rw [List.length_take, Nat.min_eq_left hlz]
      simp only [absV, if_pos hl, if_pos (And.intro hsp hlt)]
    · rw [List.length_take, Nat.min_eq_left hlz]; exact hl
    · rw [List.length_take, Nat.min_eq_left hlz, Nat.mul_one]
      rw [load_join (f := fun i => .int k (zs.getD i 0)) h0 (fun i hi => load_W hsp (hcell i (by omega)))]
      congr 1
      have e4 : ∀ l : List Int, l.flatMap (encI k) = l.map fun x => .int k x := fun l => by
        rw [List.flatMap_eq_foldl, List.map_eq_flatMap, List.flatMap_eq_foldl]; rfl
      rw [e4]
      refine List.ext_getElem? fun i => ?_
      rw [List.getElem?_map, List.getElem?_map, List.getElem?_take]
      by_cases hi : i < len
      · rw [if_pos hi, List.getElem?_range hi, List.getElem?_eq_getElem (show i < zs.length by omega)]
        simp [List.getD_eq_getElem?_getD, show i < zs.length by omega]
      · rw [if_neg hi, List.getElem?_eq_none (by simpa using hi)]; rfl
/-- A slice of numbers, opened. -/
theorem open_slV {W : World} {base : Nat} {s e : TypeId} {k : IntKind} {v : Value} {sp : Nat → Bool} {hd : Bool} {d : DataW H} {p : List MemPlace} (hs : P.underlying s = some (.slice e)) (he : P.underlying e = some (.int k)) (hc : P.cellsOf e = 1)
    (hval : Value.okWide P W .any base s v) (h : DataW.Trod enc P W 0 sp hd s v d p) : ∃ zs : List Int, SlW (hpW W) k (absA W.heap.size v) zs ∧ (∀ z ∈ zs, (Lit.int k z).wf = true) ∧ zs.length ≤ 9223372036854775807 := by
  unfold Value.okWide at hval
  rw [hs] at hval
  obtain ⟨fuel, h⟩ := h
  have hc0 : ∀ l : Array Value, v ≠ .agg l := by
    rintro l rfl
    simp only [Cell.okWide, hs, Cell.ok] at hval
  have hcs : v.cells.toList = [v] := by cases v <;> first | rfl | exact absurd rfl (hc0 _)
  rw [hcs] at h
  have ha : absA W.heap.size v = absV W.heap.size v := by cases v <;> first | rfl | exact absurd rfl (hc0 _)
  rw [ha]
  exact open_sl hs he hc hval h
/-- A struct of two slices of numbers, opened. -/
theorem open_sl2 {W : World} {base : Nat} {t s e : TypeId} {k : IntKind} {f0 f1 : Field} {v : Value} {sp : Nat → Bool} {hd : Bool} {d : DataW H} {p : List MemPlace} (ht : P.underlying t = some (.struct #[f0, f1])) (o0 : f0.offset = 0) (o1 : f1.offset = 1) (t0 : f0.type = s) (t1 : f1.type = s)
    (hs : P.underlying s = some (.slice e)) (he : P.underlying e = some (.int k)) (hc : P.cellsOf e = 1) (hcs : P.cellsOf s = 1) (hct : P.cellsOf t = 2) (hts : P.cellTypes P.depth t = some [s, s])
    (hval : Value.okWide P W .any base t v) (h : DataW.Trod enc P W 0 sp hd t v d p) :
    ∃ (c0 c1 : Value) (xs ys : List Int), v = .agg #[c0, c1] ∧ SlW (hpW W) k (absV W.heap.size c0) xs ∧ SlW (hpW W) k (absV W.heap.size c1) ys ∧ (∀ z ∈ xs, (Lit.int k z).wf = true) ∧ ∀ z ∈ ys, (Lit.int k z).wf = true := by
  unfold Value.okWide at hval
  rw [ht] at hval
  obtain ⟨cs, rfl, hsz, ts, e1, _, hrow⟩ := hval
  rw [hts] at e1
  cases e1
  rw [hct] at hsz
  obtain ⟨l⟩ := cs
  simp only [List.size_toArray] at hsz
  obtain ⟨c0, c1, rfl⟩ := len2 hsz
  obtain ⟨fuel, h⟩ := h
  obtain ⟨y0, y1, n, _, _, h1, h2⟩ := Go.ChangeShapes.trod_struct2 ht h
  rw [o0, t0, hcs] at h1
  rw [o1, t1, hcs] at h2
  obtain ⟨u0, e0, k0⟩ := hrow 0 c0 rfl
  obtain ⟨u1, e1, k1⟩ := hrow 1 c1 rfl
  cases e0
  cases e1
  obtain ⟨xs, hx, wx, _⟩ := open_sl hs he hc k0 h1
  obtain ⟨ys, hy, wy, _⟩ := open_sl hs he hc k1 h2
  exact ⟨c0, c1, xs, ys, rfl, hx, hy, wx, wy⟩
end
end Go.Ab

end
section
/- A draft of milestonelaw18, opened. -/
namespace Go.Ab
open Go.ChangeShapes Go.WideShapes Go.RowKit
section
variable {H : Type} {enc : TypeId × Value → H} {P : Program}
theorem len6 {α : Type} {l : List α} (h : l.length = 6) : ∃ a b c d e f, l = [a, b, c, d, e, f] := by
  match l, h with
  | [a, b, c, d, e, f], _ => exact ⟨a, b, c, d, e, f, rfl⟩
/-- A struct of four slices of numbers and two numbers. -/
theorem open_d18 {W : World} {base : Nat} {t s0 s2 s3 e0 e2 e3 i4 : TypeId} {f0 f1 f2 f3 f4 f5 : Field} {v : Value} {sp : Nat → Bool} {hd : Bool} {d : DataW H} {p : List MemPlace} (ht : P.underlying t = some (.struct #[f0, f1, f2, f3, f4, f5])) (o0 : f0.offset = 0) (o1 : f1.offset = 1) (o2 : f2.offset = 2) (o3 : f3.offset = 3) (o4 : f4.offset = 4) (o5 : f5.offset = 5)
    (t0 : f0.type = s0) (t1 : f1.type = s0) (t2 : f2.type = s2) (t3 : f3.type = s3) (t4 : f4.type = i4) (t5 : f5.type = i4) (h0 : P.underlying s0 = some (.slice e0)) (h2 : P.underlying s2 = some (.slice e2)) (h3 : P.underlying s3 = some (.slice e3)) (h4 : P.underlying i4 = some (.int .i8))
    (g0 : P.underlying e0 = some (.int .u8)) (g2 : P.underlying e2 = some (.int .i8)) (g3 : P.underlying e3 = some (.int .i64)) (c0 : P.cellsOf e0 = 1) (c2 : P.cellsOf e2 = 1) (c3 : P.cellsOf e3 = 1) (d0 : P.cellsOf s0 = 1) (d2 : P.cellsOf s2 = 1) (d3 : P.cellsOf s3 = 1) (d4 : P.cellsOf i4 = 1) (hct : P.cellsOf t = 6) (hts : P.cellTypes P.depth t = some [s0, s0, s2, s3, i4, i4])
    (hval : Value.okWide P W .any base t v) (h : DataW.Trod enc P W 0 sp hd t v d p) :
    ∃ (a b c e : Value) (x y : Int) (B M A N : List Int), v = .agg #[a, b, c, e, .int .i8 x, .int .i8 y] ∧ SlW (hpW W) .u8 (absV W.heap.size a) B ∧ SlW (hpW W) .u8 (absV W.heap.size b) M ∧ SlW (hpW W) .i8 (absV W.heap.size c) A ∧ SlW (hpW W) .i64 (absV W.heap.size e) N ∧
      (∀ z ∈ B, (Lit.int .u8 z).wf = true) ∧ (∀ z ∈ M, (Lit.int .u8 z).wf = true) ∧ (∀ z ∈ A, (Lit.int .i8 z).wf = true) ∧ (∀ z ∈ N, (Lit.int .i64 z).wf = true) ∧ (Lit.int .i8 x).wf = true ∧ (Lit.int .i8 y).wf = true ∧ M.length ≤ 9223372036854775807 ∧ N.length ≤ 9223372036854775807 := by
  unfold Value.okWide at hval
  rw [ht] at hval
  obtain ⟨cs, rfl, hsz, ts, e1, _, hrow⟩ := hval
  rw [hts] at e1
  cases e1
  rw [hct] at hsz
  obtain ⟨l⟩ := cs
  simp only [List.size_toArray] at hsz
  obtain ⟨a, b, c, e, x, y, rfl⟩ := len6 hsz
  obtain ⟨fuel, h⟩ := h
  obtain ⟨xs, n, _, _, hl, hlen, hf⟩ := DataW.trod_struct ht h
  obtain ⟨y0, y1, y2, y3, y4, y5, rfl⟩ := len6 (by rw [hlen]; rfl : xs.length = 6)
  have q0 := hf 0 f0 rfl
  have q1 := hf 1 f1 rfl
  have q2 := hf 2 f2 rfl
  have q3 := hf 3 f3 rfl
  have q4 := hf 4 f4 rfl
  have q5 := hf 5 f5 rfl
  rw [o0, t0, d0] at q0
  rw [o1, t1, d0] at q1
  rw [o2, t2, d2] at q2
  rw [o3, t3, d3] at q3
  rw [o4, t4, d4] at q4
  rw [o5, t5, d4] at q5
  have r : ∀ (j : Nat) t v, [s0, s0, s2, s3, i4, i4][j % 6]? = some t → [a, b, c, e, x, y][j]? = some v → Cell.okWide P W .any base t v := fun j t v h1 h2 => by
    obtain ⟨u, h3, h4⟩ := hrow j v (by simpa using h2)
    obtain rfl : t = u := Option.some.inj (h1.symm.trans h3)
    exact h4
  obtain ⟨B, hB, wB, _⟩ := open_sl h0 g0 c0 (r 0 s0 a rfl rfl) q0
  obtain ⟨M, hM, wM, lM⟩ := open_sl h0 g0 c0 (r 1 s0 b rfl rfl) q1
  obtain ⟨A, hA, wA, _⟩ := open_sl h2 g2 c2 (r 2 s2 c rfl rfl) q2
  obtain ⟨N, hN, wN, lN⟩ := open_sl h3 g3 c3 (r 3 s3 e rfl rfl) q3
  obtain ⟨u, e4, _, wu⟩ := DataW.trod_int h4 q4
  obtain ⟨v, e5, _, wv⟩ := DataW.trod_int h4 q5
  cases e4
  cases e5
  exact ⟨a, b, c, e, u, v, B, M, A, N, rfl, hB, hM, hA, hN, wB, wM, wA, wN, wu, wv, lM, lN⟩
end
end Go.Ab

end
