/- Nets, cells, flags: what the functions do (part 4). -/
import Derived.Test.YtnnimodkmjedaaaGreatDoorNetC
import Derived.ChangeSlices
import Derived.ChangeArms
import Derived.ChangeSame
set_option maxHeartbeats 4000000
set_option linter.defProp false
set_option linter.unusedVariables false
set_option linter.unusedSimpArgs false
section
namespace Go.Ab
open Go.Proofs
set_option maxRecDepth 10000
open Tryz in
def Tryz.FFbw219 := aj a1 <| aj s1 <| aj z1 <| aj n1 <| aj u2 <| aj a2 <| aj s2 <| aj z2 <| aj i2 <| aj u3 <| aj a3 <| aj s3 <| aj z3 <| aj i3 <| aj u4 <| aj a4 <| aj s4 <| aj z4 <| aj n4 <| aj u5 <| aj a5 <| aj s5 <| aj z5 <| aj i5 <| aj u6 <| aj a6 <| aj s6 <| aj z6 <| aj i6 <| aj a7 <| aj s7 <| aj z7 <| aj i7 <| aj n7 <| aj p7 <| aj ff7 <| aj d7 <| aj a8 <| aj s8 <| aj z8 <| aj i8 <| aj n8 <| aj p8 <| aj ff8 <| aj d8 <| aj u9 <| aj a9 <| aj s9 <| aj z9 <| aj n9 <| aj u10 <| aj a10 <| aj s10 <| aj z10 <| aj n10 <| aj u11 <| aj a11 <| aj s11 <| aj z11 <| aj n11 <| aj u12 <| aj a12 <| aj s12 <| aj z12 <| aj i12 <| aj a13 <| aj s13 <| aj z13 <| aj i13 <| aj n13 <| aj p13 <| aj ff13 <| aj d13 <| aj a14 <| aj s14 <| aj z14 <| aj i14 <| aj n14 <| aj p14 <| aj ff14 <| aj d14 <| aj u15 <| aj a15 <| aj s15 <| aj z15 <| aj q15 <| aj i15 <| aj n15 <| aj u16 <| aj a16 <| aj s16 <| aj z16 <| aj q16 <| aj i16 <| aj n16 <| aj u17 <| aj a17 <| aj s17 <| aj z17 <| aj q17 <| aj i17 <| aj n17 <| aj a18 <| aj s18 <| aj z18 <| aj i18 <| aj n18 <| aj p18 <| aj ff18 <| aj d18 <| aj a19 <| aj s19 <| aj z19 <| aj i19 <| aj n19 <| aj p19 <| aj ff19 <| aj d19 <| aj u22 <| aj a22 <| aj s22 <| aj z22 <| aj q22 <| aj n22 <| aj u25 <| aj a25 <| aj s25 <| aj z25 <| aj q25 <| aj n25 <| aj u29 <| aj a29 <| aj s29 <| aj z29 <| aj q29 <| aj n29 <| aj a31 <| aj s31 <| aj z31 <| aj i31 <| aj n31 <| aj p31 <| aj ff31 <| aj d31 <| aj u33 <| aj a33 <| aj s33 <| aj z33 <| aj q33 <| aj i33 <| aj n33 <| aj a35 <| aj s35 <| aj z35 <| aj q35 <| aj n35 <| aj u43 <| aj a43 <| aj s43 <| aj z43 <| aj q43 <| aj n43 <| aj a56 <| aj s56 <| aj z56 <| aj i56 <| aj n56 <| aj p56 <| aj ff56 <| aj d56 <| aj u59 <| aj a59 <| aj s59 <| aj z59 <| aj q59 <| aj n59 <| aj u60 <| aj a60 <| aj s60 <| aj z60 <| aj i60 <| aj a62 <| aj s62 <| aj z62 <| aj i62 <| aj n62 <| aj p62 <| aj ff62 <| aj d62 <| aj u97 <| aj a97 <| aj s97 <| aj z97 <| aj q97 <| aj i97 <| aj n97 <| aj a99 <| aj s99 <| aj z99 <| aj i99 <| aj n99 <| aj p99 <| aj ff99 <| aj d99 <| aj u156 <| aj a156 <| aj s156 <| aj z156 <| aj q156 <| aj i156 <| aj n156 <| aj u163 <| aj a163 <| aj s163 <| aj z163 <| aj q163 <| aj n163 <| aj a165 <| aj s165 <| aj z165 <| aj i165 <| aj n165 <| aj p165 <| aj ff165 <| aj d165 <| aj u231 <| aj a231 <| aj s231 <| aj z231 <| aj i231 <| aj u283 <| aj a283 <| aj s283 <| aj z283 <| aj i283 <| aj a300 <| aj s300 <| aj z300 <| aj i300 <| aj n300 <| aj p300 <| aj ff300 <| aj d300 <| aj u301 <| aj a301 <| aj s301 <| aj z301 <| aj n301 <| aj a303 <| aj s303 <| aj z303 <| aj i303 <| aj n303 <| aj u305 <| aj a305 <| aj s305 <| aj z305 <| aj i305 <| aj a306 <| aj s306 <| aj z306 <| aj n306 <| aj u307 <| aj a307 <| aj s307 <| aj z307 <| aj i307 <| aj u308 <| aj a308 <| aj s308 <| aj z308 <| aj i308 <| aj a310 <| aj s310 <| aj z310 <| aj i310 <| aj n310 <| aj p310 <| aj ff310 <| d310
def SlG (v : Value) (l : List Int) : Prop := (v = .slice none 0 0 ∧ l = []) ∨ ∃ b, v = .slice (some ⟨b, 0, some 1⟩) l.length l.length
theorem made18_ok {h0 : Hp} (ok : h0.t.Sized h0.n) {vB vM vA vN : Value} {sI wI : Int} {B ms as_ : List Int} (hB : SlW h0 .u8 vB B) (hM : SlW h0 .u8 vM ms) (hMr : ∀ x ∈ ms, 0 ≤ x ∧ x ≤ 255) (hA : SlW h0 .i8 vA as_) (hAr : ∀ x ∈ as_, -128 ≤ x ∧ x ≤ 127) (fN : Fl vN) :
 Ret Tryz.abEnv 19 [.agg ⟨[vB, vM, vA, vN, .int .i8 sI, .int .i8 wI]⟩] h0 fun r h' => Gr h0 h' ∧ ∃ γ vx vy va pn vl vc l act m, r = .tuple #[gU γ vx vy va, pn, vl, vc] ∧ Good γ ∧ cL h' vx vy va γ ∧ dg h' m pn γ ∧ aB h' 1 (encI .i64) vl l ∧ fD γ.nodes l ∧ l.length ≤ 6 ∧ aB h' 1 (encI .i64) vc act ∧ act.length ≤ 8 ∧ SlG vc act := by
 have S := St.init (M := NoM) ok
 have fB := hB.sl.fl
 have fM := hM.sl.fl
 have fA := hA.sl.fl
 have mn : min (B.length : Int) 80 = ((min B.length 80 : Nat) : Int) := by omega
 obtain ⟨vB', hsl, sB, bB⟩ := hB.low (kd' := .i64) (n := min B.length 80) Tryz.u22 Tryz.s5 (Nat.min_le_left _ _)
 have fB' := sB.fl
 refine ah (n := 97) (rs := [.cell 2 31, .tmp 3, .tmp 4, .tmp 5]) rfl Tryz.e19 rfl rfl rfl (lbt rfl) ?_
 simp only [BS, Nat.reduceLT]
 refine ao (bS (by intro x e; cases e)) S ?_; clear S; intro h b1 S n_b1; simp only [an] at S
 simp only [BS, Tryz.FFbw219]
 refine ao aJ S ?_; clear S; intro h b2 S n_b2
 simp only [BS, LB, Nat.reduceLT, Nat.reduceEqDiff, Nat.reduceAdd, Option.map_some, Option.map_none, Tryz.FFbw219, hB.sl.lenq, mn, hsl, fB', S.ld (b := b1) (o := 0) (by repeat constructor) rfl]
 refine ao (bS (by intro x e; cases e)) S ?_; clear S; intro h bd S n_bd; simp only [an] at S
 have hB' : aB h 1 (encI .u8) vB' (B.take (min B.length 80)) := sB.gr S.gr
 have nB : ¬ ax vB' bd := fun hc => by have := sB.lt ok hc; omega
 have lb' : (B.take (min B.length 80)).length < 1000000 := by rw [List.length_take]; omega
 simp only [BS, LB, Nat.reduceLT, Nat.reduceEqDiff]
 have k0 := S.fr.n
 have ap := S.apart
 simp only [keys, List.map_cons, List.map_nil, List.filterMap_nil, List.append_nil, List.nodup_cons, List.mem_cons, List.not_mem_nil, or_false, not_or] at ap
 have lt2 := (S.row (b := b2) m1).lt S.ok
 have lt1 := (S.row (b := b1) m2).lt S.ok
 refine step_ret (raw_ok S.ok (S.row m0) ⟨hB', nB, lb', by omega⟩) ?_
 rintro v h ⟨f, γ, vx, vy, va, rfl, hγ, ga, hz⟩
 replace S := S.drop1.step f (fun c hc => by subst hc; exact .inr n_bd) (fun c hc e => by simp [keys] at hc; omega)
 have fx := ga.X.fl
 have fy := ga.Y.fl
 have fa := ga.A.fl
 have n1 := hγ.n1
 have n2 := hγ.n2
 have gS := S.gr
 have r1 := S.row (b := b1) m1
 have r2 := S.row (b := b2) m0
 have S0 := S
 replace S := S.base
 simp only [BS, Tryz.FFbw219, gU]
 refine ao aJ S ?_; clear S; intro h b7 S n_b7
 simp only [BS, LB, Nat.reduceLT, Nat.reduceEqDiff]
 refine ac (S.store (i := 0) rfl Tryz.s31 (by intro x e; cases e) rfl (by simp only [an, List.all_cons, List.all_nil, fx.2.1, fy.2.1, fa.2.1, Bool.and_true]; rfl) (lbt rfl) ono) ?_
 clear S; rintro h ⟨S, mo⟩
 simp only [List.set_cons_zero, List.set_cons_succ, an, lay, List.take, List.drop, List.nil_append, List.cons_append, List.append_nil, List.length_cons, List.length_nil, Nat.reduceAdd, Nat.add_zero] at S
 have ga2 := ga.mo S.fr (fun c hc hm => by have := hz c hc; simp [keys] at hm; omega)
 simp only [BS, LB, Nat.reduceLT, Nat.reduceEqDiff, Tryz.FFbw219, List.drop_zero, List.take_succ_cons, List.take_zero, S.lds (b := b7) (o := 0) (n := 4) (by repeat constructor) (lbt rfl)]
 have q7 := (S.row (b := b7) m0).lt S.ok
 have q2 := (S.row (b := b2) m1).lt S.ok
 have q1 := (S.row (b := b1) m2).lt S.ok
 refine step_ret (netNew_ok S.ok hγ ga2) ?_
 rintro v h ⟨p, rfl, g, hp⟩
 replace S := S.call g
 replace ga2 := ga2.gr g
 clear g
 obtain ⟨bp, rfl⟩ : ∃ b, p = ptrTo b := by obtain ⟨b, _, _, _, _, _, e, _⟩ := hp.ex; exact ⟨b, e⟩
 replace S := S0.rebase S
 have gS2 := S.gr
 have r1 := S.row (b := b1) m2
 have r2 := S.row (b := b2) m1
 have r7 := S.row (b := b7) m0
 have lt1' := r1.lt S.ok
 have lt2' := r2.lt S.ok
 have lt7' := r7.lt S.ok
 have okC := S.ok
 have ge2 := n_b2
 clear S0
 replace S := S.base
 simp only [keys, List.map_cons, List.map_nil, List.filterMap_nil, List.append_nil] at S
 simp only [BS, LB, Nat.reduceLT, Nat.reduceEqDiff, Tryz.FFbw219, S.ld (b := b7) (o := 0) (by repeat constructor) rfl]
 refine ao (kz (by first | exact Tryz.u22 | exact Tryz.u25 | exact Tryz.u29 | exact Tryz.u43 | exact Tryz.u59 | exact Tryz.u163) (by first | exact Tryz.e2E | exact Tryz.e3E | exact Tryz.e5E | exact Tryz.e43E | exact Tryz.e56E | exact Tryz.e60E) (by omega) (by omega)) S ?_; clear S; intro h bs S n_bs
 rw [Int.toNat_natCast, kh, show List.replicate γ.nodes (Value.int .i64 0) = (List.range γ.nodes).map fun v => Value.int .i64 (((fun _ => 0 : Nat → Nat) v : Nat) : Int) from by rw [List.map_const', List.length_range]; rfl] at S
 replace S := S.nilG (k := 1)
 simp only [BS, LB, Nat.reduceLT, Nat.reduceEqDiff, Int.toNat_natCast]
 rename Hp => hC0
 have hAb : ∀ c, ax vA c → c < h0.n := fun c hc => hA.sl.lt ok hc
 have hMb : ∀ c, ax vM c → c < h0.n := fun c hc => hM.sl.lt ok hc
 have nb : ∀ c, c < h0.n → ¬ c ∈ [b7, b2, b1] := fun c hc hm => by
  simp only [List.mem_cons, List.not_mem_nil, or_false] at hm
  have := gS.n
  omega
 refine lW (fun ρ h' => ∃ (vR : Value) (l : List Int) (cs : List Value), St (· ∈ [b7, b2, b1]) h h' [(bs, .row cs 1), (b7, .row [.int .i64 γ.nodes, vx, vy, va] 1), (b2, .row [.int .i64 0, .slice none 0 0, .slice none 0 0, .slice none 0 0] 1), (b1, .row [vB, vM, vA, vN, .int .i8 sI, .int .i8 wI] 1)] [(vR, 1, ints l)] ∧ fD γ.nodes l ∧ l.length ≤ 6 ∧
  ρ 1 = ptrTo b1 ∧ ρ 2 = ptrTo b2 ∧ ρ 7 = ptrTo b7 ∧ ρ 8 = ptrTo bp ∧ ρ 10 = vR ∧ ρ 11 = .slice none 0 0)
  (fun (i : Nat) ρ h' => i ≤ ms.length ∧ i ≤ 6 ∧ ∃ (vR : Value) (l : List Int) (cnt : Nat → Nat), St (· ∈ [b7, b2, b1]) h h' [(bs, .row ((List.range γ.nodes).map fun v => .int .i64 ((cnt v : Nat) : Int)) 1), (b7, .row [.int .i64 γ.nodes, vx, vy, va] 1), (b2, .row [.int .i64 0, .slice none 0 0, .slice none 0 0, .slice none 0 0] 1), (b1, .row [vB, vM, vA, vN, .int .i8 sI, .int .i8 wI] 1)] [(vR, 1, ints l)] ∧ fD γ.nodes l ∧ l.length ≤ i ∧ (∀ v, v < γ.nodes → cnt v ≤ i ∧ (cnt v = 0 ↔ (v : Int) ∉ l)) ∧
    ρ 1 = ptrTo b1 ∧ ρ 2 = ptrTo b2 ∧ ρ 7 = ptrTo b7 ∧ ρ 8 = ptrTo bp ∧ ρ 10 = vR ∧ ρ 11 = .slice none 0 0 ∧ ρ 12 = .slice (some ⟨bs, 0, none⟩) γ.nodes γ.nodes ∧ ρ 13 = .int .i64 i) (fun i => ms.length - i) ?_ ?_ 0 ?_
 · clear S
   intro i ih ρ h' ⟨hi, hi6, vR, l, cnt, S, hl, hli, hc, r1, r2, r7, r8, r10, r11, r12, r13⟩
   have hM' := (hM.sl.gr gS2).mo S.fr (fun c hc => nb c (hMb c hc))
   have fin : ∀ (n : Nat) (d : List Deferred) (rc : Option (Value × Bool)) (ρ' : Nat → Value), ρ' 1 = ptrTo b1 → ρ' 2 = ptrTo b2 → ρ' 7 = ptrTo b7 → ρ' 8 = ptrTo bp → ρ' 10 = vR → ρ' 11 = .slice none 0 0 → JP n d rc (fun ρ h' => ∃ (vR : Value) (l : List Int) (cs : List Value), St (· ∈ [b7, b2, b1]) h h' [(bs, .row cs 1), (b7, .row [.int .i64 γ.nodes, vx, vy, va] 1), (b2, .row [.int .i64 0, .slice none 0 0, .slice none 0 0, .slice none 0 0] 1), (b1, .row [vB, vM, vA, vN, .int .i8 sI, .int .i8 wI] 1)] [(vR, 1, ints l)] ∧ fD γ.nodes l ∧ l.length ≤ 6 ∧
    ρ 1 = ptrTo b1 ∧ ρ 2 = ptrTo b2 ∧ ρ 7 = ptrTo b7 ∧ ρ 8 = ptrTo bp ∧ ρ 10 = vR ∧ ρ 11 = .slice none 0 0) .normal (LL n ρ' d rc) h' := fun n d rc ρ' e1 e2 e7 e8 e10 e11 => gV ⟨vR, l, _, S, hl, by omega, e1, e2, e7, e8, e10, e11⟩
   by_cases hlt : i < ms.length
   · by_cases h6 : i < 6
     · have c6 : (i : Int) < 6 := by omega
       obtain ⟨c, o, hidx, hld⟩ := hM'.ix (kd := .i64) (cN .u8) hlt
       have hx := hMr _ (List.getElem_mem hlt)
       obtain ⟨x, ex⟩ : ∃ x : Nat, ms[i] = x := ⟨ms[i].toNat, by omega⟩
       rw [ex] at hld hx
       have wc : au .i64 (x : Int) = (x : Int) := by rw [wrap64] <;> omega
       have nz : (γ.nodes : Int) ≠ 0 := by omega
       have tm : (x : Int).tmod (γ.nodes : Int) = ((x % γ.nodes : Nat) : Int) := by rw [Int.tmod_eq_emod_of_nonneg (by omega)]; exact (Int.natCast_emod _ _).symm
       have hmod : x % γ.nodes < γ.nodes := Nat.mod_lt _ (by omega)
       have w : au .i64 ((i : Int) + 1) = ((i + 1 : Nat) : Int) := by rw [wrap64] <;> omega
       simp only [BS, LB, Nat.reduceLT, Nat.reduceEqDiff, Tryz.FFbw219, r1, r13, hM.sl.lenq, aF, hlt, c6, S.ld (b := b1) (o := 1) (by repeat constructor) rfl]
       refine aI (aR rfl) (q := 0) (ps := []) (by kernel_rfl) ?_
       simp only [BS, LB, fQ, bI, fS, cls, Nat.reduceLT, Nat.reduceEqDiff, Nat.reduceAdd, Nat.reducePow, Nat.reduceDiv, Nat.reduceMod, Nat.reduceLeDiff, Tryz.FFbw219, r1, r7, r12, r13, hidx, hld, encI, wc, lO nz, tm, S.ld (b := b7) (o := 0) (by repeat constructor) rfl, S.ld (b := b1) (o := 1) (by repeat constructor) rfl]
       generalize x % γ.nodes = v at hmod
       obtain ⟨cle, ciff⟩ := hc v hmod
       have lc := S.ld (b := bs) (o := v) m0 (iQ (F := fun v => Value.int .i64 ((cnt v : Nat) : Int)) hmod)
       have w2 : au .i64 ((cnt v : Int) + 1) = ((cnt v + 1 : Nat) : Int) := by rw [wrap64] <;> omega
       have setc : ((List.range γ.nodes).map fun v => Value.int .i64 ((cnt v : Nat) : Int)).set v (.int .i64 ((cnt v + 1 : Nat) : Int)) = (List.range γ.nodes).map fun u => Value.int .i64 (((if u = v then cnt v + 1 else cnt u : Nat) : Nat) : Int) := by
        have := iJ (N := γ.nodes) (k := v) (F := fun v => Value.int .i64 ((cnt v : Nat) : Int)) (F' := fun u => Value.int .i64 (((if u = v then cnt v + 1 else cnt u : Nat) : Nat) : Int)) (fun u _ hu => by simp [hu])
        rw [← this]; simp
       clear hM' fin
       by_cases hz : cnt v = 0
       · have hz' : ((cnt v : Nat) : Int) = 0 := by omega
         simp only [BS, LB, Nat.reduceLT, Nat.reduceEqDiff, Tryz.FFbw219, r10, hmod, lc, hz']
         refine ao (bT (by first | exact Tryz.u22 | exact Tryz.u25 | exact Tryz.u29 | exact Tryz.u43 | exact Tryz.u59 | exact Tryz.u163) (by first | exact Tryz.e2E | exact Tryz.e3E | exact Tryz.e5E | exact Tryz.e43E | exact Tryz.e56E | exact Tryz.e60E) (by decide) (by first | rfl | exact fillE )) S ?_; clear S; intro h bt S n_bt; simp only [aY, bD, an, List.cons_append, List.nil_append, List.append_nil, List.set_cons_zero, List.set_cons_succ, Nat.reduceMul, Nat.reduceAdd, Nat.zero_mul, Nat.zero_add, Nat.mul_one, Nat.one_mul] at S
         simp only [BS, LB, Nat.reduceLT, Nat.reduceEqDiff]
         have src : aH h 1 (.slice (some ⟨bt, 0, none⟩) 1 1) = some (1, ints [(v : Int)]) := by simp only [aH]; rw [S.lds (b := bt) (o := 0) (n := 1 * 1) m0 (lbt rfl)]; rfl
         replace S := S.drop1
         refine dt (S.grow (j := 0) (m := 1) (new := ints [(v : Int)]) rfl Tryz.u43 Tryz.e3E (by decide) Tryz.n43 src rfl (by decide) rfl (by rw [cb, cb]; simp; omega)) ?_
         clear S src; rintro h vR' S
         simp only [List.set_cons_zero] at S
         rw [← jt] at S
         have lc := S.ld (b := bs) (o := v) m0 (iQ (F := fun v => Value.int .i64 ((cnt v : Nat) : Int)) hmod)
         simp only [BS, LB, Nat.reduceLT, Nat.reduceEqDiff, Tryz.FFbw219, r12, hmod, lc, w2]
         refine ac (ab S (i := 0) rfl Tryz.s3 aM (by simpa using hmod) ono) ?_
         clear S lc; rintro h ⟨S, _⟩
         simp only [List.set_cons_zero] at S
         rw [setc] at S
         simp only [BS, LB, Nat.reduceLT, Nat.reduceEqDiff, r13, w]
         refine ih (i + 1) _ _ (by omega) ⟨by omega, by omega, _, l ++ [(v : Int)], fun u => if u = v then cnt v + 1 else cnt u, S, hl.push (by omega) (by omega) (by omega) (ciff.1 hz), by simp; omega, fun u hu => ?_, by simp [aa, r1, ae], by simp [aa, r2, ae], by simp [aa, r7, ae], by simp [aa, r8, ae], by simp [aa], by simp [aa, r11], by simp [aa, r12], by simp [aa]⟩
         have := hc u hu
         by_cases e : u = v
         · subst e; simp; omega
         · have e' : ¬ ((u : Int) = (v : Int)) := by omega
           simp only [e, if_false, List.mem_append, List.mem_singleton, e', or_false]
           exact ⟨by omega, this.2⟩
       · have hz' : ¬ ((cnt v : Nat) : Int) = 0 := by omega
         simp only [BS, LB, Nat.reduceLT, Nat.reduceEqDiff, Tryz.FFbw219, r12, hmod, lc, hz', w2]
         refine ac (ab S (i := 0) rfl Tryz.s3 aM (by simpa using hmod) ono) ?_
         clear S lc; rintro h ⟨S, _⟩
         simp only [List.set_cons_zero] at S
         rw [setc] at S
         simp only [BS, LB, Nat.reduceLT, Nat.reduceEqDiff, r13, w]
         refine ih (i + 1) _ _ (by omega) ⟨by omega, by omega, _, l, fun u => if u = v then cnt v + 1 else cnt u, S, hl, by omega, fun u hu => ?_, by simp [aa, r1, ae], by simp [aa, r2, ae], by simp [aa, r7, ae], by simp [aa, r8, ae], by simp [aa, r10], by simp [aa, r11], by simp [aa, r12], by simp [aa]⟩
         have := hc u hu
         by_cases e : u = v
         · subst e
           simp only [if_true]
           exact ⟨by omega, by constructor <;> intro h <;> first | omega | exact absurd (this.2.2 h) hz⟩
         · simp only [e, if_false]; exact ⟨by omega, this.2⟩
     · have c6 : ¬ (i : Int) < 6 := by omega
       simp only [BS, LB, Nat.reduceLT, Nat.reduceEqDiff, Tryz.FFbw219, r1, r13, hM.sl.lenq, aF, hlt, c6, S.ld (b := b1) (o := 1) (by repeat constructor) rfl]
       exact fin _ _ _ _ (by simp [aa, r1, ae]) (by simp [aa, r2, ae]) (by simp [aa, r7, ae]) (by simp [aa, r8, ae]) (by simp [aa, r10]) (by simp [aa, r11])
   · simp only [BS, LB, Nat.reduceLT, Nat.reduceEqDiff, Tryz.FFbw219, r1, r13, hM.sl.lenq, aF, hlt, S.ld (b := b1) (o := 1) (by repeat constructor) rfl]
     exact fin _ _ _ _ (by simp [aa, r1, ae]) (by simp [aa, r2, ae]) (by simp [aa, r7, ae]) (by simp [aa, r8, ae]) (by simp [aa, r10]) (by simp [aa, r11])
 · clear S
   intro ρ h' ⟨vR, l, cs, S, hl, hl6, r1, r2, r7, r8, r10, r11⟩
   replace S := S.nilG (k := 1)
   simp only [BS]
   refine lW (fun ρ h' => ∃ (vC : Value) (act : List Int), St (· ∈ [b7, b2, b1]) h h' [(bs, .row cs 1), (b7, .row [.int .i64 γ.nodes, vx, vy, va] 1), (b2, .row [.int .i64 0, .slice none 0 0, .slice none 0 0, .slice none 0 0] 1), (b1, .row [vB, vM, vA, vN, .int .i8 sI, .int .i8 wI] 1)] [(vC, 1, ints act), (vR, 1, ints l)] ∧ act.length ≤ 8 ∧ ρ 1 = ptrTo b1 ∧ ρ 2 = ptrTo b2 ∧ ρ 7 = ptrTo b7 ∧ ρ 8 = ptrTo bp ∧ ρ 10 = vR ∧ ρ 11 = vC)
    (fun (i : Nat) ρ h' => i ≤ as_.length ∧ i ≤ 8 ∧ ∃ (vC : Value) (act : List Int), St (· ∈ [b7, b2, b1]) h h' [(bs, .row cs 1), (b7, .row [.int .i64 γ.nodes, vx, vy, va] 1), (b2, .row [.int .i64 0, .slice none 0 0, .slice none 0 0, .slice none 0 0] 1), (b1, .row [vB, vM, vA, vN, .int .i8 sI, .int .i8 wI] 1)] [(vC, 1, ints act), (vR, 1, ints l)] ∧ act.length = i ∧ ρ 1 = ptrTo b1 ∧ ρ 2 = ptrTo b2 ∧ ρ 7 = ptrTo b7 ∧ ρ 8 = ptrTo bp ∧ ρ 10 = vR ∧ ρ 11 = vC ∧ ρ 15 = .int .i64 i) (fun i => as_.length - i) ?_ ?_ 0 ?_
   · clear S
     intro i ih ρ h' ⟨hi, hi8, vC, act, S, hact, r1, r2, r7, r8, r10, r11, r15⟩
     have hA' := (hA.sl.gr gS2).mo S.fr (fun c hc => nb c (hAb c hc))
     have fin : ∀ (n : Nat) (d : List Deferred) (rc : Option (Value × Bool)) (ρ' : Nat → Value), ρ' 1 = ptrTo b1 → ρ' 2 = ptrTo b2 → ρ' 7 = ptrTo b7 → ρ' 8 = ptrTo bp → ρ' 10 = vR → ρ' 11 = vC → JP n d rc (fun ρ h' => ∃ (vC : Value) (act : List Int), St (· ∈ [b7, b2, b1]) h h' [(bs, .row cs 1), (b7, .row [.int .i64 γ.nodes, vx, vy, va] 1), (b2, .row [.int .i64 0, .slice none 0 0, .slice none 0 0, .slice none 0 0] 1), (b1, .row [vB, vM, vA, vN, .int .i8 sI, .int .i8 wI] 1)] [(vC, 1, ints act), (vR, 1, ints l)] ∧ act.length ≤ 8 ∧ ρ 1 = ptrTo b1 ∧ ρ 2 = ptrTo b2 ∧ ρ 7 = ptrTo b7 ∧ ρ 8 = ptrTo bp ∧ ρ 10 = vR ∧ ρ 11 = vC) .normal (LL n ρ' d rc) h' := fun n d rc ρ' e1 e2 e7 e8 e10 e11 => gV ⟨vC, act, S, by omega, e1, e2, e7, e8, e10, e11⟩
     by_cases hlt : i < as_.length
     · by_cases h8 : i < 8
       · have c8 : (i : Int) < 8 := by omega
         obtain ⟨c, o, hidx, hld⟩ := hA'.ix (kd := .i64) (cN .i8) hlt
         have hx := hAr _ (List.getElem_mem hlt)
         have wc : au .i64 as_[i] = as_[i] := by rw [wrap64] <;> omega
         have w : au .i64 ((i : Int) + 1) = ((i + 1 : Nat) : Int) := by rw [wrap64] <;> omega
         simp only [BS, LB, fQ, bI, fS, Nat.reduceLT, Nat.reduceEqDiff, Tryz.FFbw219, r1, r11, r15, hA.sl.lenq, aF, hlt, c8, hidx, hld, encI, wc, lO (n := 8) (by decide), S.ld (b := b1) (o := 2) (by repeat constructor) rfl]
         refine ao (bT (by first | exact Tryz.u22 | exact Tryz.u25 | exact Tryz.u29 | exact Tryz.u43 | exact Tryz.u59 | exact Tryz.u163) (by first | exact Tryz.e2E | exact Tryz.e3E | exact Tryz.e5E | exact Tryz.e43E | exact Tryz.e56E | exact Tryz.e60E) (by decide) (by first | rfl | exact fillE )) S ?_; clear S; intro h bt S n_bt; simp only [aY, bD, an, List.cons_append, List.nil_append, List.append_nil, List.set_cons_zero, List.set_cons_succ, Nat.reduceMul, Nat.reduceAdd, Nat.zero_mul, Nat.zero_add, Nat.mul_one, Nat.one_mul] at S
         simp only [BS, LB, Nat.reduceLT, Nat.reduceEqDiff]
         have src : aH h 1 (.slice (some ⟨bt, 0, none⟩) 1 1) = some (1, ints [as_[i].tmod 8]) := by simp only [aH]; rw [S.lds (b := bt) (o := 0) (n := 1 * 1) m0 (lbt rfl)]; rfl
         replace S := S.drop1
         refine dt (S.grow (j := 0) (m := 1) (new := ints [as_[i].tmod 8]) rfl Tryz.u43 Tryz.e3E (by decide) Tryz.n43 src rfl (by decide) rfl (by rw [cb, cb]; simp; omega)) ?_
         clear S src fin hA'; rintro h vC' S
         simp only [List.set_cons_zero] at S
         rw [← jt] at S
         simp only [BS, LB, Nat.reduceLT, Nat.reduceEqDiff, r15, w]
         exact ih (i + 1) _ _ (by omega) ⟨by omega, by omega, _, act ++ [as_[i].tmod 8], S, by simp [hact], by simp [aa, r1, ae], by simp [aa, r2, ae], by simp [aa, r7, ae], by simp [aa, r8, ae], by simp [aa, r10], by simp [aa], by simp [aa]⟩
       · have c8 : ¬ (i : Int) < 8 := by omega
         simp only [BS, LB, Nat.reduceLT, Nat.reduceEqDiff, Tryz.FFbw219, r1, r15, hA.sl.lenq, aF, hlt, c8, S.ld (b := b1) (o := 2) (by repeat constructor) rfl]
         exact fin _ _ _ _ (by simp [aa, r1, ae]) (by simp [aa, r2, ae]) (by simp [aa, r7, ae]) (by simp [aa, r8, ae]) (by simp [aa, r10]) (by simp [aa, r11])
     · simp only [BS, LB, Nat.reduceLT, Nat.reduceEqDiff, Tryz.FFbw219, r1, r15, hA.sl.lenq, aF, hlt, S.ld (b := b1) (o := 2) (by repeat constructor) rfl]
       exact fin _ _ _ _ (by simp [aa, r1, ae]) (by simp [aa, r2, ae]) (by simp [aa, r7, ae]) (by simp [aa, r8, ae]) (by simp [aa, r10]) (by simp [aa, r11])
   · clear S
     intro ρ h' ⟨vC, act, S, hact, r1, r2, r7, r8, r10, r11⟩
     simp only [BS, LB, Nat.reduceLT, Nat.reduceEqDiff, Tryz.FFbw219, r2, r7, r8, r10, r11, List.drop_zero, List.take_succ_cons, List.take_zero, S.lds (b := b7) (o := 0) (n := 4) (by repeat constructor) (lbt rfl)]
     refine ac (S.store (i := 2) rfl Tryz.s31 (by intro x e; cases e) rfl (by simp only [an, List.all_cons, List.all_nil, fx.2.1, fy.2.1, fa.2.1, Bool.and_true]; rfl) (lbt rfl) ono) ?_
     clear S; rintro h ⟨S, _⟩
     simp only [List.set_cons_zero, List.set_cons_succ, an, lay, List.take, List.drop, List.nil_append, List.cons_append, List.append_nil, List.length_cons, List.length_nil, Nat.reduceAdd, Nat.add_zero] at S
     simp only [BS, LB, ag, Nat.reduceLT, Nat.reduceEqDiff]
     refine (kg (by decide) (by simp only [bH, r2, ae, Nat.reduceEqDiff, reduceIte]; exact eK Tryz.a31 Tryz.s31 (S.lds (b := b2) (o := 0) (n := 4) m2 (lbt rfl)))).2 ?_
     refine (j8 (by decide)).2 ((j8 (by decide)).2 ((j8 (by decide)).2 (j7.2 ?_)))
     have slC : aB h 1 (encI .i64) vC act := (S.gown _ m0).1.sl rfl (fun _ => rfl) (by decide)
     have slR : aB h 1 (encI .i64) vR l := (S.gown _ m1).1.sl rfl (fun _ => rfl) (by decide)
     refine ⟨(gS2.fr.trans S.fr (fun c hc => .inr ?_) : Mo NoM h0 h).gr, γ, vx, vy, va, ptrTo bp, vR, vC, l, act, _, rfl, hγ, ga2.mo S.fr (fun c hc hm => ?_), hp.mo S.fr (fun c hm => ?_), slR, hl, hl6, slC, hact, ?_⟩
     · simp only [List.mem_cons, List.not_mem_nil, or_false] at hc
       have := gS.n
       omega
     · have k1 := hz c hc
       have k2 : c < b7 := by
        refine Nat.lt_of_lt_of_le ?_ n_b7
        rcases hc with hc | hc | hc
        · exact ga.X.lt gS.ok hc
        · exact ga.Y.lt gS.ok hc
        · exact ga.A.lt gS.ok hc
       simp only [List.mem_cons, List.not_mem_nil, or_false] at hm
       omega
     · simp only [List.mem_cons, List.not_mem_nil, or_false] at hm
       omega
     · rcases (S.gown _ m0).1 with ⟨e1, e2⟩ | ⟨b, n, e1, e2, _⟩
       · have e2' : ints act = [] := e2
         exact .inl ⟨e1, List.length_eq_zero_iff.1 (by rw [← cb, e2']; rfl)⟩
       · have e2' : n * 1 = (ints act).length := e2
         rw [cb] at e2'
         have : n = act.length := by omega
         subst this
         exact .inr ⟨b, e1⟩
   · exact ⟨Nat.zero_le _, Nat.zero_le _, _, [], S, rfl, by simp [aa, r1, ae], by simp [aa, r2, ae], by simp [aa, r7, ae], by simp [aa, r8, ae], by simp [aa, r10], by simp [aa, r11], by simp [aa]⟩
 · exact ⟨Nat.zero_le _, Nat.zero_le _, _, [], fun _ => 0, S, mayL_nil _, Nat.zero_le _, fun v _ => by simp, by simp [aa, ae], by simp [aa, ae], by simp [aa, ae], by simp [aa, ae], by simp [aa], by simp [aa], by simp [aa], by simp [aa]⟩
end Go.Ab

end
section
namespace Go.Ab
open Go.Proofs
set_option maxRecDepth 10000
open Tryz in
def Tryz.FFr1822 := aj a1 <| aj s1 <| aj z1 <| aj n1 <| aj u2 <| aj a2 <| aj s2 <| aj z2 <| aj i2 <| aj u3 <| aj a3 <| aj s3 <| aj z3 <| aj i3 <| aj u4 <| aj a4 <| aj s4 <| aj z4 <| aj n4 <| aj u5 <| aj a5 <| aj s5 <| aj z5 <| aj i5 <| aj u6 <| aj a6 <| aj s6 <| aj z6 <| aj i6 <| aj a7 <| aj s7 <| aj z7 <| aj i7 <| aj n7 <| aj p7 <| aj ff7 <| aj d7 <| aj a8 <| aj s8 <| aj z8 <| aj i8 <| aj n8 <| aj p8 <| aj ff8 <| aj d8 <| aj u9 <| aj a9 <| aj s9 <| aj z9 <| aj n9 <| aj u10 <| aj a10 <| aj s10 <| aj z10 <| aj n10 <| aj u11 <| aj a11 <| aj s11 <| aj z11 <| aj n11 <| aj u12 <| aj a12 <| aj s12 <| aj z12 <| aj i12 <| aj a13 <| aj s13 <| aj z13 <| aj i13 <| aj n13 <| aj p13 <| aj ff13 <| aj d13 <| aj a14 <| aj s14 <| aj z14 <| aj i14 <| aj n14 <| aj p14 <| aj ff14 <| aj d14 <| aj u22 <| aj a22 <| aj s22 <| aj z22 <| aj q22 <| aj n22 <| aj u25 <| aj a25 <| aj s25 <| aj z25 <| aj q25 <| aj n25 <| aj u59 <| aj a59 <| aj s59 <| aj z59 <| aj q59 <| aj n59 <| aj u60 <| aj a60 <| aj s60 <| aj z60 <| aj i60 <| aj a62 <| aj s62 <| aj z62 <| aj i62 <| aj n62 <| aj p62 <| aj ff62 <| aj d62 <| aj u68 <| aj a68 <| aj s68 <| aj z68 <| aj q68 <| n68
theorem rowOk_nil : fW 0 [] := ⟨rfl, fun x h => by simp at h⟩
theorem fW.push {N : Nat} {l : List Int} (h : fW N l) {x : Int} (h0 : 0 ≤ x) (h1 : x ≤ 72057594037927936) : fW (N + 1) (l ++ [x]) := by
 refine ⟨by simp [h.1], fun y hy => ?_⟩
 rcases List.mem_append.1 hy with hy | hy
 · exact h.2 y hy
 · cases List.mem_singleton.1 hy; exact ⟨h0, h1⟩
theorem qD {h0 : Hp} (ok : h0.t.Sized h0.n) {vB vM vA vN : Value} {sI wI : Int} {ns : List Int} (fB : Fl vB) (fM : Fl vM) (fA : Fl vA) (hN : SlW h0 .i64 vN ns) {n N f : Nat} (hn : n ≤ 16) (hNN : N ≤ 100) (hf : f ≤ 100) (hns : ns.length ≤ 9223372036854775807) :
 Ret Tryz.abEnv 22 [.agg ⟨[vB, vM, vA, vN, .int .i8 sI, .int .i8 wI]⟩, .int .i64 n, .int .i64 N, .int .i64 f] h0 fun r h' => Gr h0 h' ∧ ∃ R, dI h' h0.n r n R ∧ ∀ i, i < n → fW N (R i) := by
 have S := St.init (M := NoM) ok
 have fN := hN.sl.fl
 refine ah (n := 54) (rs := [.tmp 8]) rfl Tryz.e22 rfl rfl rfl (lbt rfl) ?_
 simp only [BS, Nat.reduceLT]
 refine ao (bS (by intro x e; cases e)) S ?_; clear S; intro h b4 S n_b4; simp only [an] at S
 simp only [BS]
 have r4 := (S.row (b := b4) m0).load1 (o := 3) rfl
 have g0 := S.gr
 have okF := S.ok
 have k0 := g0.n
 clear S
 rename Hp => hF
 have S := St.init (M := NoM) okF
 replace S := S.nilG (k := 1)
 have slN := hN.sl.gr g0
 refine bE (fun (i : Nat) ρ h => i ≤ n ∧ ∃ (ws : List Value) (vR : Value), St NoM hF h [] [(vR, 1, ws)] ∧ ws.length = i ∧ (∀ (j : Nat) w, ws[j]? = some w → ∃ L, aB h 1 (encI .i64) w L ∧ fW N L ∧ ∀ c, ax w c → hF.n ≤ c ∧ c ∉ keys [] [(vR, 1, ws)]) ∧ ρ 1 = .int .i64 n ∧ ρ 2 = .int .i64 N ∧ ρ 3 = .int .i64 f ∧ ρ 4 = ptrTo b4 ∧ ρ 9 = vR ∧ ρ 10 = .int .i64 i) (fun i => n - i) ?_ 0 _ _ ?_
 · clear S
   intro i ih ρ h ⟨hi, ws, vR, S, hw, hc, r1, r2, r3, r4', r9, r10⟩
   have w : au .i64 ((i : Int) + 1) = ((i + 1 : Nat) : Int) := by rw [wrap64] <;> omega
   have fvR : Fl vR := by
    rcases (S.gown _ m0).1 with ⟨e, _⟩ | ⟨_, _, e, _⟩
    · rw [show vR = _ from e]; exact aw
    · rw [show vR = _ from e]; exact aw
   by_cases hlt : i < n
   · have hmul : i * N ≤ 16 * 100 := Nat.mul_le_mul (by omega) (by omega)
     have w1 : au .i64 ((i : Int) * (N : Int)) = ((i * N : Nat) : Int) := by rw [wrap64] <;> (try rw [← Int.natCast_mul]) <;> omega
     have w2 : au .i64 ((f : Int) + ((i * N : Nat) : Int)) = ((f + i * N : Nat) : Int) := by rw [wrap64] <;> omega
     simp only [BS, LB, Nat.reduceLT, Nat.reduceEqDiff, r1, r10, aF, hlt]
     have S0 := S
     have okI := S.ok
     have gI := S.gr
     clear S
     have S := St.init (M := NoM) okI
     replace S := S.nilG (k := 1)
     rename Hp => hI
     refine bE (fun (v : Nat) ρ h => v ≤ N ∧ ∃ (L : List Int) (vL : Value), St NoM hI h [] [(vL, 1, ints L)] ∧ fW v L ∧ ρ 1 = .int .i64 n ∧ ρ 2 = .int .i64 N ∧ ρ 3 = .int .i64 f ∧ ρ 4 = ptrTo b4 ∧ ρ 9 = vR ∧ ρ 10 = .int .i64 i ∧ ρ 11 = vL ∧ ρ 12 = .int .i64 v) (fun v => N - v) ?_ 0 _ _ ?_
     · clear S r1 r2 r3 r4' r9 r10
       intro v ihv ρ h ⟨hv, L, vL, S, hL, r1, r2, r3, r4', r9, r10, r11, r12⟩
       have wv : au .i64 ((v : Int) + 1) = ((v + 1 : Nat) : Int) := by rw [wrap64] <;> omega
       have fvL : Fl vL := by
        rcases (S.gown _ m0).1 with ⟨e, _⟩ | ⟨_, _, e, _⟩
        · rw [show vL = _ from e]; exact aw
        · rw [show vL = _ from e]; exact aw
       have l4 := S.old (gI.load r4) (fun h => h)
       by_cases hvt : v < N
       · have w3 : au .i64 (((f + i * N : Nat) : Int) + (v : Int)) = ((f + i * N + v : Nat) : Int) := by rw [wrap64] <;> omega
         have slN' := slN.gr (gI.trans S.gr)
         by_cases hz : 0 < ns.length
         · have hz' : (0 : Int) < (ns.length : Int) := by omega
           have nz : (ns.length : Int) ≠ 0 := by omega
           have hmod : (f + i * N + v) % ns.length < ns.length := Nat.mod_lt _ hz
           have tm : ((f + i * N + v : Nat) : Int).tmod (ns.length : Int) = (((f + i * N + v) % ns.length : Nat) : Int) := by rw [Int.tmod_eq_emod_of_nonneg (by omega)]; exact (Int.natCast_emod _ _).symm
           obtain ⟨c, o, hidx, hld⟩ := slN'.ix (kd := .i64) (cN .i64) hmod
           generalize hx : ns[(f + i * N + v) % ns.length] = x at hld
           simp only [BS, LB, Nat.reduceLT, Nat.reduceEqDiff, Tryz.FFr1822, r2, r4', r12, aF, hvt, l4, hN.sl.lenq, hz']
           refine aI (aR rfl) (q := 0) (ps := []) (by kernel_rfl) ?_
           simp only [BS, LB, cls, Nat.reduceLT, Nat.reduceEqDiff, Nat.reduceAdd, Nat.reducePow, Nat.reduceDiv, Nat.reduceMod, Nat.reduceLeDiff, Tryz.FFr1822, r2, r3, r4', r10, r11, r12, l4, hN.sl.lenq, w1, w2, w3, lO nz, tm, hidx, hld, encI]
           refine ao (bT (by first | exact Tryz.u22 | exact Tryz.u25 | exact Tryz.u59 | exact Tryz.u68) (by first | exact Tryz.e2E | exact Tryz.e5E | exact Tryz.e25E | exact Tryz.e60E) (by decide) (by first | rfl | exact fillE )) S ?_; clear S; intro h bs S n_bs; simp only [aY, bD, an, List.cons_append, List.nil_append, List.append_nil, List.set_cons_zero, List.set_cons_succ, Nat.reduceMul, Nat.reduceAdd, Nat.zero_mul, Nat.zero_add, Nat.mul_one, Nat.one_mul] at S
           simp only [BS, LB, Nat.reduceLT, Nat.reduceEqDiff]
           have src : aH h 1 (.slice (some ⟨bs, 0, none⟩) 1 1) = some (1, ints [min (max x 0) 72057594037927936]) := by simp only [aH]; rw [S.lds (b := bs) (o := 0) (n := 1 * 1) m0 (lbt rfl)]; rfl
           replace S := S.drop1
           refine dt (S.grow (j := 0) (m := 1) (new := ints [min (max x 0) 72057594037927936]) rfl Tryz.u25 Tryz.e2E (by decide) Tryz.n25 src rfl (by decide) rfl (by have := hL.1; rw [cb, cb]; simp; omega)) ?_
           clear S src l4; rintro h vL' S
           simp only [List.set_cons_zero] at S
           rw [← jt] at S
           simp only [BS, LB, Nat.reduceLT, Nat.reduceEqDiff, r12, wv]
           exact ihv (v + 1) _ _ (by omega) ⟨by omega, _, vL', S, hL.push (by omega) (by omega), by simp [aa, r1], by simp [aa, r2], by simp [aa, r3], by simp [aa, r4', ae], by simp [aa, r9], by simp [aa, r10], by simp [aa], by simp [aa]⟩
         · have hz' : ¬ (0 : Int) < (ns.length : Int) := by omega
           simp only [BS, LB, Nat.reduceLT, Nat.reduceEqDiff, Tryz.FFr1822, r2, r4', r11, r12, aF, hvt, l4, hN.sl.lenq, hz']
           refine ao (bT (by first | exact Tryz.u22 | exact Tryz.u25 | exact Tryz.u59 | exact Tryz.u68) (by first | exact Tryz.e2E | exact Tryz.e5E | exact Tryz.e25E | exact Tryz.e60E) (by decide) (by first | rfl | exact fillE )) S ?_; clear S; intro h bs S n_bs; simp only [aY, bD, an, List.cons_append, List.nil_append, List.append_nil, List.set_cons_zero, List.set_cons_succ, Nat.reduceMul, Nat.reduceAdd, Nat.zero_mul, Nat.zero_add, Nat.mul_one, Nat.one_mul] at S
           simp only [BS, LB, Nat.reduceLT, Nat.reduceEqDiff]
           have src : aH h 1 (.slice (some ⟨bs, 0, none⟩) 1 1) = some (1, ints [0]) := by simp only [aH]; rw [S.lds (b := bs) (o := 0) (n := 1 * 1) m0 (lbt rfl)]; rfl
           replace S := S.drop1
           refine dt (S.grow (j := 0) (m := 1) (new := ints [0]) rfl Tryz.u25 Tryz.e2E (by decide) Tryz.n25 src rfl (by decide) rfl (by have := hL.1; rw [cb, cb]; simp; omega)) ?_
           clear S src l4; rintro h vL' S
           simp only [List.set_cons_zero] at S
           rw [← jt] at S
           simp only [BS, LB, Nat.reduceLT, Nat.reduceEqDiff, r12, wv]
           exact ihv (v + 1) _ _ (by omega) ⟨by omega, _, vL', S, hL.push (x := 0) (by omega) (by omega), by simp [aa, r1], by simp [aa, r2], by simp [aa, r3], by simp [aa, r4', ae], by simp [aa, r9], by simp [aa, r10], by simp [aa], by simp [aa]⟩
       · simp only [BS, LB, ag, Nat.reduceLT, Nat.reduceEqDiff, r2, r9, r10, r11, r12, aF, hvt]
         have eN : v = N := by omega
         subst eN
         have sy := (S.gown _ m0).1.sl rfl (fun _ => rfl) (by decide)
         replace sy : aB h 1 (encI .i64) vL L := sy
         have ny : ∀ c, ax vL c → hI.n ≤ c := fun c hb => ((S.gblk m0 hb).1).elim (fun h => h) (fun h => h.elim)
         have g := S.gr
         have S1 := S0.call g
         obtain ⟨ya, yn, yc, rfl⟩ := sy.form
         have fy : Fl (.slice ya yn yc) := aw
         rename Hp => h1
         have old : ∀ (j : Nat) u, (ws ++ [.slice ya yn yc])[j]? = some u → ∃ L, aB h1 1 (encI .i64) u L ∧ fW v L ∧ ∀ c, ax u c → hF.n ≤ c ∧ c ∉ keys [] [(vR, 1, ws)] ∧ c < h1.n := fun j u hu => by
          rcases mj hu with hu | ⟨rfl, rfl⟩
          · obtain ⟨L', q1, q2, q3⟩ := hc j u hu
            exact ⟨L', q1.gr g, q2, fun c hb => ⟨(q3 c hb).1, (q3 c hb).2, (q1.gr g).lt S1.ok hb⟩⟩
          · exact ⟨L, sy, hL, fun c hb => ⟨Nat.le_trans S0.fr.n (ny c hb), fun hk => by have := S0.key_lt hk; have := ny c hb; omega, sy.lt S1.ok hb⟩⟩
         replace S := S1.base
         refine ao (bT (by first | exact Tryz.u22 | exact Tryz.u25 | exact Tryz.u59 | exact Tryz.u68) (by first | exact Tryz.e2E | exact Tryz.e5E | exact Tryz.e25E | exact Tryz.e60E) (by decide) (by first | rfl | exact fillE )) S ?_; clear S; intro h bs S n_bs; simp only [aY, bD, an, List.cons_append, List.nil_append, List.append_nil, List.set_cons_zero, List.set_cons_succ, Nat.reduceMul, Nat.reduceAdd, Nat.zero_mul, Nat.zero_add, Nat.mul_one, Nat.one_mul] at S
         simp only [BS, LB, Nat.reduceLT, Nat.reduceEqDiff]
         have src : aH h 1 (.slice (some ⟨bs, 0, none⟩) 1 1) = some (1, [.slice ya yn yc]) := by simp only [aH]; rw [S.lds (b := bs) (o := 0) (n := 1 * 1) m0 (lbt rfl)]; rfl
         replace S := S.drop1
         refine dt (S.grow (j := 0) (m := 1) (new := [.slice ya yn yc]) rfl Tryz.u68 Tryz.e25E (by decide) Tryz.n68 src rfl (by decide) (by simp [fy.2.1]) (by simp; omega)) ?_
         clear S src; rintro h vR' S
         simp only [List.set_cons_zero] at S
         have fv : Fl vR' := by
          rcases (S.gown _ m0).1 with ⟨e, _⟩ | ⟨_, _, e, _⟩
          · rw [show vR' = _ from e]; exact aw
          · rw [show vR' = _ from e]; exact aw
         simp only [BS, LB, Nat.reduceLT, Nat.reduceEqDiff, r10, w]
         refine ih (i + 1) _ _ (by omega) ⟨by omega, ws ++ [.slice ya yn yc], vR', S1.rebase S, by simp [hw], fun j u hu => ?_, by simp [aa, r1], by simp [aa, r2], by simp [aa, r3], by simp [aa, r4', ae], by simp [aa], by simp [aa]⟩
         obtain ⟨L', q1, q2, q3⟩ := old j u hu
         refine ⟨L', q1.mo S.fr (fun c hb => (q3 c hb).2.1), q2, fun c hb => ⟨(q3 c hb).1, fun hk => ?_⟩⟩
         rcases S.key_new c hk with h2 | h2
         · exact (q3 c hb).2.1 h2
         · have := (q3 c hb).2.2; omega
     · exact ⟨Nat.zero_le _, [], _, S, rowOk_nil, by simp [aa, r1], by simp [aa, r2], by simp [aa, r3], by simp [aa, r4', ae], by simp [aa, r9], by simp [aa, r10], by simp [aa], by simp [aa]⟩
   · have eN : i = n := by omega
     subst eN
     simp only [BS, LB, ag, Nat.reduceLT, Nat.reduceEqDiff, r1, r9, r10, aF, hlt]
     have sl := (S.gown _ m0).1.sl (mU ws).symm mg (by decide)
     have ch : ∀ j : Nat, ∃ L : List Int, ∀ w, ws[j]? = some w → aB h 1 (encI .i64) w L ∧ fW N L := fun j => by
      by_cases hj : j < ws.length
      · obtain ⟨L, q1, q2, _⟩ := hc j ws[j] (List.getElem?_eq_getElem hj)
        exact ⟨L, fun w hw => by rw [List.getElem?_eq_getElem hj] at hw; cases hw; exact ⟨q1, q2⟩⟩
      · exact ⟨[], fun w hw => by rw [List.getElem?_eq_none (by omega)] at hw; cases hw⟩
     refine ⟨g0.trans S.gr, fun j => Classical.choose (ch j), ⟨ws, sl, by omega, fun c hb => Nat.le_trans k0 (((S.gblk m0 hb).1).elim (fun h => h) (fun h => h.elim)), fun j u hu => ⟨(Classical.choose_spec (ch j) u hu).1, fun c hb => ?_⟩⟩, fun j hj => (Classical.choose_spec (ch j) ws[j] (List.getElem?_eq_getElem (by omega))).2⟩
     obtain ⟨_, _, _, q3⟩ := hc j u hu
     exact Nat.le_trans k0 (q3 c hb).1
 · exact ⟨Nat.zero_le _, [], _, S, rfl, fun j w hw => by simp at hw, by simp [aa, cV], by simp [aa, cV], by simp [aa, cV], by simp [aa, ae], by simp [aa], by simp [aa]⟩
end Go.Ab

end
section
namespace Go.Ab
def swJ (l : List Nat) (j : Nat) : List Nat := (l.set j (l.getD (j - 1) 0)).set (j - 1) (l.getD j 0)
def bub (key : Nat → Int) : Nat → List Nat → List Nat
 | 0, l => l
 | j + 1, l => if key (l.getD j 0) < key (l.getD (j + 1) 0) then bub key j (swJ l (j + 1)) else l
def di (key : Nat → Int) (k : Nat) (l : List Nat) : List Nat := (List.range k).foldl (fun l i => bub key (i + 1) l) l
theorem jD (key : Nat → Int) (k : Nat) (l : List Nat) : di key (k + 1) l = bub key (k + 1) (di key k l) := by
 unfold di; rw [List.range_succ, List.foldl_append]; rfl
theorem swJ_len (l : List Nat) (j : Nat) : (swJ l j).length = l.length := by simp [swJ]
theorem sc {l : List Nat} {j : Nat} (h : j < l.length) : (swJ l j).Perm l := by
 have : ((l.set j l[j - 1]).set (j - 1) l[j]).Perm l := List.set_set_perm h (by omega)
 unfold swJ
 rwa [show l.getD (j - 1) 0 = l[j - 1] by simp [List.getD_eq_getElem?_getD, show j - 1 < l.length by omega], show l.getD j 0 = l[j] by simp [List.getD_eq_getElem?_getD, h]]
theorem swJ_at {l : List Nat} {j : Nat} (h : j < l.length) (i : Nat) : (swJ l j).getD i 0 = if i = j - 1 then l.getD j 0 else if i = j then l.getD (j - 1) 0 else l.getD i 0 := by
 unfold swJ
 rw [List.getD_eq_getElem?_getD, List.getElem?_set, List.length_set]
 by_cases h1 : j - 1 = i
 · subst h1; rw [if_pos rfl, if_pos (by omega), if_pos rfl]; rfl
 · rw [if_neg h1, if_neg (fun e => h1 e.symm), List.getElem?_set]
   by_cases h2 : j = i
   · subst h2; rw [if_pos rfl, if_pos h, if_pos rfl]; rfl
   · rw [if_neg h2, if_neg (fun e => h2 e.symm), ← List.getD_eq_getElem?_getD]
theorem rm {key : Nat → Int} : ∀ (j : Nat) {l : List Nat}, j < l.length → (bub key j l).Perm l
 | 0, l, _ => .refl _
 | j + 1, l, h => by
   unfold bub
   split
   · exact (rm j (by rw [swJ_len]; omega)).trans (sc h)
   · exact .refl _
theorem iu {key : Nat → Int} {l : List Nat} : ∀ (k : Nat), k < l.length ∨ k = 0 → (di key k l).Perm l
 | 0, _ => .refl _
 | k + 1, h => by
   have ih := iu (key := key) (l := l) k (by omega)
   rw [jD]
   exact (rm (k + 1) (by rw [ih.length_eq]; omega)).trans ih
def Srt (key : Nat → Int) (l : List Nat) (n : Nat) : Prop := ∀ a b, a < b → b < n → key (l.getD b 0) ≤ key (l.getD a 0)
theorem bub_srt {key : Nat → Int} {k : Nat} : ∀ (j : Nat) {l : List Nat}, k < l.length → j ≤ k → (∀ a b, a < b → b ≤ k → b ≠ j → key (l.getD b 0) ≤ key (l.getD a 0)) → Srt key (bub key j l) (k + 1)
 | 0, l, hk, hj, h => fun a b hab hb => h a b hab (by omega) (by omega)
 | j + 1, l, hk, hj, h => by
   unfold bub
   split
   · rename_i hlt
     refine bub_srt j (by rw [swJ_len]; exact hk) (by omega) fun a b hab hb hne => ?_
     rw [swJ_at (by omega), swJ_at (by omega)]
     simp only [Nat.add_sub_cancel]
     rw [if_neg hne]
     by_cases e1 : b = j + 1
     · subst e1
       rw [if_pos rfl]
       by_cases e2 : a = j
       · subst e2; rw [if_pos rfl]; omega
       · rw [if_neg e2, if_neg (by omega)]; exact h a j (by omega) (by omega) (by omega)
     · rw [if_neg e1]
       by_cases e2 : a = j
       · subst e2; rw [if_pos rfl]; exact h (a + 1) b (by omega) hb e1
       · rw [if_neg e2]
         by_cases e3 : a = j + 1
         · subst e3; rw [if_pos rfl]; exact h j b (by omega) hb e1
         · rw [if_neg e3]; exact h a b hab hb e1
   · rename_i hge
     intro a b hab hb
     by_cases e : b = j + 1
     · subst e
       by_cases e2 : a = j
       · subst e2; omega
       · have := h a j (by omega) (by omega) (by omega)
         omega
     · exact h a b hab (by omega) e
theorem pS {key : Nat → Int} {l : List Nat} : ∀ (k : Nat), k < l.length → Srt key (di key k l) (k + 1)
 | 0, _ => fun a b _ hb => by omega
 | k + 1, h => by
   have ih := pS (key := key) (l := l) k (by omega)
   have pm := iu (key := key) (l := l) k (.inl (by omega))
   rw [jD]
   exact bub_srt (k + 1) (by rw [pm.length_eq]; exact h) (Nat.le_refl _) fun a b hab hb hne => ih a b hab (by omega)
end Go.Ab

end
section
namespace Go.Ab
def gK (key : Nat → Int) (n m : Nat) : List Nat := (di key (n - 1) (List.range n)).take m
section
variable {key : Nat → Int} {n m : Nat}
theorem lD : (di key (n - 1) (List.range n)).Perm (List.range n) := iu _ (by rw [List.length_range]; omega)
theorem nj : (di key (n - 1) (List.range n)).length = n := by rw [lD.length_eq, List.length_range]
theorem isr_srt (hn : 0 < n) : Srt key (di key (n - 1) (List.range n)) n := by
 have := pS (key := key) (l := List.range n) (n - 1) (by rw [List.length_range]; omega)
 rwa [show n - 1 + 1 = n by omega] at this
theorem rf (hm : m ≤ n) : (gK key n m).length = m := by unfold gK; rw [List.length_take, nj]; omega
theorem rI {x : Nat} (h : x ∈ gK key n m) : x < n := List.mem_range.1 (lD.mem_iff.1 (List.mem_of_mem_take h))
theorem ue : (gK key n m).Nodup := (lD.nodup_iff.2 List.nodup_range).sublist (List.take_sublist _ _)
theorem p6 {k : Nat} (hk : k < m) : (gK key n m).getD k 0 = (di key (n - 1) (List.range n)).getD k 0 := by
 unfold gK
 rw [List.getD_eq_getElem?_getD, List.getD_eq_getElem?_getD, List.getElem?_take_of_lt hk]
theorem actK_down {j k : Nat} (hj : j < k) (hk : k < m) (hm : m ≤ n) : key ((gK key n m).getD k 0) ≤ key ((gK key n m).getD j 0) := by
 rw [p6 hk, p6 (by omega)]
 exact isr_srt (by omega) j k hj (by omega)
theorem qx {i : Nat} (hi : i < n) (hx : i ∉ gK key n m) (h0 : 0 < m) (hm : m ≤ n) : key i ≤ key ((gK key n m).getD (m - 1) 0) := by
 rw [p6 (by omega)]
 have hmem : i ∈ di key (n - 1) (List.range n) := lD.mem_iff.2 (List.mem_range.2 hi)
 obtain ⟨j, hj, ej⟩ := List.getElem_of_mem hmem
 rw [nj] at hj
 have hjm : m ≤ j := by
  rcases Nat.lt_or_ge j m with h | h
  · refine absurd ?_ hx
    have : (gK key n m)[j]? = some i := by
     unfold gK
     rw [List.getElem?_take_of_lt h, List.getElem?_eq_getElem (by rw [nj]; omega), ej]
    exact List.mem_of_getElem? this
  · exact h
 have := isr_srt (key := key) (n := n) (by omega) (m - 1) j (by omega) hj
 have e : (di key (n - 1) (List.range n)).getD j 0 = i := by
  rw [List.getD_eq_getElem?_getD, List.getElem?_eq_getElem (by rw [nj]; omega), ej]; rfl
 rwa [e] at this
theorem gc {α : Type} {f : α → Int} {d : Int} : ∀ (l : List α) (b : Int), l.foldl (fun b i => max b (f i)) b ≤ d ↔ b ≤ d ∧ ∀ i ∈ l, f i ≤ d
 | [], b => by simp
 | x :: l, b => by
   rw [List.foldl_cons, gc l]
   simp only [List.mem_cons, forall_eq_or_imp]
   constructor
   · rintro ⟨h1, h2⟩; exact ⟨by omega, by omega, h2⟩
   · rintro ⟨h1, h2, h3⟩; exact ⟨by omega, h3⟩
theorem actK_best (h0 : 0 < m ∨ n = 0) (hm : m ≤ n) : (gK key n m).foldl (fun b i => max b (key i)) 0 = (List.range n).foldl (fun b i => max b (key i)) 0 := by
 refine Int.le_antisymm ((gc _ _).2 ?_) ((gc _ _).2 ?_)
 · have h := (gc (f := key) (List.range n) 0).1 (Int.le_refl _)
   exact ⟨h.1, fun i hi => h.2 i (List.mem_range.2 (rI hi))⟩
 · have h := (gc (f := key) (gK key n m) 0).1 (Int.le_refl _)
   refine ⟨h.1, fun i hi => ?_⟩
   have hi := List.mem_range.1 hi
   by_cases hx : i ∈ gK key n m
   · exact h.2 i hx
   · have q := qx hi hx (by omega) hm
     refine Int.le_trans q (h.2 _ ?_)
     have : m - 1 < (gK key n m).length := by rw [rf hm]; omega
     rw [List.getD_eq_getElem?_getD, List.getElem?_eq_getElem this]
     exact List.getElem_mem this
end
end Go.Ab

end
section
namespace Go.Ab
open Go.Proofs
set_option maxRecDepth 10000
open Tryz in
def Tryz.FFa1205 := aj a1 <| aj s1 <| aj z1 <| aj n1 <| aj u2 <| aj a2 <| aj s2 <| aj z2 <| aj i2 <| aj u3 <| aj a3 <| aj s3 <| aj z3 <| aj i3 <| aj u4 <| aj a4 <| aj s4 <| aj z4 <| aj n4 <| aj u5 <| aj a5 <| aj s5 <| aj z5 <| aj i5 <| aj u6 <| aj a6 <| aj s6 <| aj z6 <| aj i6 <| aj u43 <| aj a43 <| aj s43 <| aj z43 <| aj q43 <| aj n43 <| aj a137 <| aj s137 <| aj z137 <| n137
open Tryz in
def Tryz.FFa1133 := aj u3 <| aj a3 <| aj s3 <| aj z3 <| aj i3 <| aj u43 <| aj a43 <| aj s43 <| aj z43 <| aj q43 <| aj n43 <| aj a137 <| aj s137 <| aj z137 <| n137
open Tryz in
def Tryz.FFa163 := aj a1 <| aj s1 <| aj z1 <| aj n1 <| aj u2 <| aj a2 <| aj s2 <| aj z2 <| aj i2 <| aj u3 <| aj a3 <| aj s3 <| aj z3 <| aj i3 <| aj u4 <| aj a4 <| aj s4 <| aj z4 <| aj n4 <| aj u43 <| aj a43 <| aj s43 <| aj z43 <| aj q43 <| n43
open Tryz in
def Tryz.FFa175 := aj a1 <| aj s1 <| aj z1 <| aj n1 <| aj u2 <| aj a2 <| aj s2 <| aj z2 <| aj i2 <| aj u3 <| aj a3 <| aj s3 <| aj z3 <| aj i3 <| aj u43 <| aj a43 <| aj s43 <| aj z43 <| aj q43 <| aj n43 <| aj a137 <| aj s137 <| aj z137 <| n137
def dP (l : List Nat) : List Value := l.map fun (x : Nat) => .int .i64 x
theorem nS (l : List Nat) : l.flatMap eC = dP l := by
 unfold dP; rw [List.flatMap_eq_foldl, List.map_eq_flatMap, List.flatMap_eq_foldl]; rfl
theorem kp (l : List Nat) : (dP l).length = l.length := by simp [dP]
theorem natM_at {l : List Nat} {i : Nat} (h : i < l.length) : (dP l)[i]? = some (.int .i64 (l.getD i 0 : Nat)) := by
 unfold dP; rw [List.getElem?_map, List.getElem?_eq_getElem h]; simp [List.getD_eq_getElem?_getD, h]
theorem rJ (l : List Nat) (i x : Nat) : (dP l).set i (.int .i64 (x : Nat)) = dP (l.set i x) := by unfold dP; rw [List.map_set]
theorem sh {a b : Int} : iG a b < 0 ↔ a < b := by
 unfold iG
 split
 · omega
 · split <;> omega
def CmpF (E : Env) (hq : Hp) (g : FuncId) (post : List Value) (N : Nat) (key : Nat → Int) : Prop := ∀ h, Gr hq h → ∀ i j, i < N → j < N → bQ E g ([.int .i64 (i : Nat), .int .i64 (j : Nat)] ++ post) h (.int .i64 (iG (key j) (key i)))
theorem uf {hq h0 : Hp} (gq : Gr hq h0) {b N : Nat} {xs : List Nat} {g : FuncId} {post : Array Value} {key : Nat → Int} (row : Row h0 b (dP xs) 1) (hb : hq.n ≤ b) (hn : xs.length ≤ 20) (hx : ∀ x ∈ xs, x < N) (hc : CmpF Tryz.abEnv hq g post.toList N key) :
 Ret Tryz.abEnv 205 [.slice (some ⟨b, 0, some 1⟩) xs.length xs.length, .int .i64 0, .int .i64 (xs.length : Nat), .func (.func g) #[] post] h0 fun _ h' => Mo (· = b) h0 h' ∧ Row h' b (dP (di key (xs.length - 1) xs)) 1 := by
 have ok := gq.ok
 have S := St.init1 ok (o := .row _ 1) row
 have w1 : au .i64 (0 + 1) = ((0 + 1 : Nat) : Int) := rfl
 refine ah (n := 53) (rs := []) rfl Tryz.e205 rfl rfl rfl (lbt rfl) ?_
 simp only [BS, LB, Nat.reduceLT, Nat.reduceEqDiff, Int.reduceAdd]
 refine bE (fun (i : Nat) ρ h => i ≤ xs.length - 1 ∧ St (· = b) h0 h [(b, .row (dP (di key i xs)) 1)] [] ∧ ρ 0 = .slice (some ⟨b, 0, some 1⟩) xs.length xs.length ∧ ρ 1 = .int .i64 0 ∧ ρ 2 = .int .i64 (xs.length : Nat) ∧ ρ 3 = .func (.func g) #[] post ∧ ρ 8 = .int .i64 ((i + 1 : Nat) : Int)) (fun i => xs.length - i) ?_ 0 _ _ ?_
 · clear S
   intro i ih ρ h ⟨hi, S, r0, r1, r2, r3, r8⟩
   by_cases hlt : i + 1 < xs.length
   · simp only [BS, LB, Nat.reduceLT, Nat.reduceEqDiff, r2, r8, aF, hlt]
     have pmI := iu (key := key) (l := xs) i (.inl (by omega))
     refine bE (fun (j : Nat) ρ h => j ≤ i + 1 ∧ ∃ l, l.Perm xs ∧ bub key j l = bub key (i + 1) (di key i xs) ∧ St (· = b) h0 h [(b, .row (dP l) 1)] [] ∧ ρ 0 = .slice (some ⟨b, 0, some 1⟩) xs.length xs.length ∧ ρ 1 = .int .i64 0 ∧ ρ 2 = .int .i64 (xs.length : Nat) ∧ ρ 3 = .func (.func g) #[] post ∧ ρ 8 = .int .i64 ((i + 1 : Nat) : Int) ∧ ρ 9 = .int .i64 (j : Nat)) (fun j => j) ?_ (i + 1) _ _ ?_
     · clear S r0 r1 r2 r3 r8
       intro j ihj ρ h ⟨hj, l, pm, hbub, S, r0, r1, r2, r3, r8, r9⟩
       have ll := pm.length_eq
       have wi : au .i64 (((i + 1 : Nat) : Int) + 1) = ((i + 1 + 1 : Nat) : Int) := by rw [wrap64] <;> omega
       by_cases hj0 : 0 < j
       · obtain ⟨k, rfl⟩ : ∃ k, j = k + 1 := ⟨j - 1, by omega⟩
         have cj : (0 : Int) < ((k + 1 : Nat) : Int) := by omega
         have wk : au .i64 (((k + 1 : Nat) : Int) - 1) = (k : Int) := by rw [wrap64] <;> omega
         have k1 : k + 1 < xs.length := by omega
         have k0 : k < xs.length := by omega
         have q1 := (S.row (b := b) m0).load1 (natM_at (i := k + 1) (by omega))
         have q0 := (S.row (b := b) m0).load1 (natM_at (i := k) (by omega))
         have d1 : l.getD (k + 1) 0 < N := by
          refine hx _ (pm.mem_iff.1 ?_)
          rw [List.getD_eq_getElem?_getD, List.getElem?_eq_getElem (by omega)]; exact List.getElem_mem _
         have d0 : l.getD k 0 < N := by
          refine hx _ (pm.mem_iff.1 ?_)
          rw [List.getD_eq_getElem?_getD, List.getElem?_eq_getElem (by omega)]; exact List.getElem_mem _
         simp only [BS]
         refine aI (aR rfl) (q := 0) (ps := []) (by kernel_rfl) ?_
         simp only [BS, LB, cls, Nat.reduceLT, Nat.reduceEqDiff, Nat.reduceAdd, Nat.reducePow, Nat.reduceDiv, Nat.reduceMod, Nat.reduceLeDiff, Tryz.FFa1205, r0, r1, r3, r9, cj, wk, k1, k0, q1, q0]
         refine eG (hc _ (((gq.fr (M := NoM)).trans S.fr (fun c e => .inr (by omega))).gr) _ _ d1 d0) ?_
         intro h g1
         replace S := S.call g1
         by_cases hk : key (l.getD k 0) < key (l.getD (k + 1) 0)
         · have ck : iG (key (l.getD k 0)) (key (l.getD (k + 1) 0)) < 0 := sh.2 hk
           replace q1 := g1.load q1
           replace q0 := g1.load q0
           simp only [BS, LB, cls, Nat.reduceLT, Nat.reduceEqDiff, Nat.reduceAdd, Nat.reducePow, Nat.reduceDiv, Nat.reduceMod, Nat.reduceLeDiff, ck]
           refine aI (aR rfl) (q := 0) (ps := []) (by kernel_rfl) ?_
           simp only [BS, LB, cls, Nat.reduceLT, Nat.reduceEqDiff, Nat.reduceAdd, Nat.reducePow, Nat.reduceDiv, Nat.reduceMod, Nat.reduceLeDiff, Tryz.FFa1205, r0, r9, wk, k1, k0, q1, q0]
           refine aO (ab S (i := 0) rfl Tryz.s3 aM (by rw [kp]; omega) ono) ?_
           clear S; rintro h3 ⟨S, mo1⟩
           simp only [List.set_cons_zero, List.set_cons_succ] at S
           simp only [BS, LB, cls, Nat.reduceLT, Nat.reduceEqDiff, Nat.reduceAdd, Nat.reducePow, Nat.reduceDiv, Nat.reduceMod, Nat.reduceLeDiff, Tryz.FFa1205, k0]
           refine aO (ab S (i := 0) rfl Tryz.s3 aM (by rw [List.length_set, kp]; omega) ono) ?_
           clear S; rintro h4 ⟨S, mo2⟩
           simp only [List.set_cons_zero, List.set_cons_succ] at S
           rw [rJ, rJ] at S
           simp only [BS, LB, Nat.reduceLT, Nat.reduceEqDiff, Nat.reduceAdd, r9, wk]
           have e : bub key (k + 1) l = bub key k (swJ l (k + 1)) := by
            show (if _ then _ else _) = _
            rw [if_pos hk]
           exact ihj k _ _ (by omega) ⟨by omega, swJ l (k + 1), (sc (by omega)).trans pm, by rw [← e]; exact hbub, S, by simp [aa, r0], by simp [aa, r1], by simp [aa, r2], by simp [aa, r3], by simp [aa, r8], by simp [aa]⟩
         · have ck : ¬ iG (key (l.getD k 0)) (key (l.getD (k + 1) 0)) < 0 := fun h => hk (sh.1 h)
           have e : bub key (k + 1) l = l := by
            show (if _ then _ else _) = _
            rw [if_neg hk]
           rw [e] at hbub
           simp only [BS, LB, cls, Nat.reduceLT, Nat.reduceEqDiff, Nat.reduceAdd, Nat.reducePow, Nat.reduceDiv, Nat.reduceMod, Nat.reduceLeDiff, r8, ck, wi]
           exact ih (i + 1) _ _ (by omega) ⟨by omega, by rw [jD, ← hbub]; exact S, by simp [aa, r0], by simp [aa, r1], by simp [aa, r2], by simp [aa, r3], by simp [aa]⟩
       · have ej : j = 0 := by omega
         subst ej
         have hb0 : l = bub key (i + 1) (di key i xs) := hbub
         have cj : ¬ (0 : Int) < ((0 : Nat) : Int) := by omega
         simp only [BS]
         refine aI (aR rfl) (q := 0) (ps := []) (by kernel_rfl) ?_
         simp only [BS, LB, cls, Nat.reduceLT, Nat.reduceEqDiff, Nat.reduceAdd, Nat.reducePow, Nat.reduceDiv, Nat.reduceMod, Nat.reduceLeDiff, Int.reduceLT, Int.cast_ofNat_Int, r1, r8, r9, wi]
         exact ih (i + 1) _ _ (by omega) ⟨by omega, by rw [jD, ← hb0]; exact S, by simp [aa, r0], by simp [aa, r1], by simp [aa, r2], by simp [aa, r3], by simp [aa]⟩
     · exact ⟨Nat.le_refl _, _, pmI, rfl, S, by simp [aa, r0], by simp [aa, r1], by simp [aa, r2], by simp [aa, r3], by simp [aa, r8], by simp [aa]⟩
   · simp only [BS, LB, Nat.reduceLT, Nat.reduceEqDiff, r2, r8, aF, hlt]
     have ei : i = xs.length - 1 := by omega
     subst ei
     exact ⟨S.fr, S.row m0⟩
 · exact ⟨Nat.zero_le _, S, by simp [aa, cV], by simp [aa, cV], by simp [aa, cV], by simp [aa, cV], by simp [aa]; rfl⟩
theorem stable_ok {hq h0 : Hp} (gq : Gr hq h0) {b N : Nat} {xs : List Nat} {g : FuncId} {post : Array Value} {key : Nat → Int} (row : Row h0 b (dP xs) 1) (hb : hq.n ≤ b) (hn : xs.length < 20) (hx : ∀ x ∈ xs, x < N) (hc : CmpF Tryz.abEnv hq g post.toList N key) :
 Ret Tryz.abEnv 185 [.slice (some ⟨b, 0, some 1⟩) xs.length xs.length, .int .i64 (xs.length : Nat), .func (.func g) #[] post] h0 fun _ h' => Mo (· = b) h0 h' ∧ Row h' b (dP (di key (xs.length - 1) xs)) 1 := by
 have ok := gq.ok
 have c1 : ¬ (20 : Int) ≤ (xs.length : Int) := by omega
 have c2 : ¬ (20 : Int) < (xs.length : Int) := by omega
 have S := St.init (M := NoM) ok
 refine ah (n := 63) (rs := []) rfl Tryz.e185 rfl rfl rfl (lbt rfl) ?_
 simp only [BS, LB, Nat.reduceLT, Nat.reduceEqDiff]
 rw [ce]
 simp only [BS, LB, Nat.reduceLT, Nat.reduceEqDiff, c1]
 refine step_ret (uf gq row hb (by omega) hx hc) ?_
 rintro r h ⟨f, R⟩
 simp only [BS]
 rw [ce]
 simp only [BS, LB, Nat.reduceLT, Nat.reduceEqDiff, c2]
 exact ⟨f, R⟩
theorem qW {hq h0 : Hp} (gq : Gr hq h0) {b N : Nat} {xs : List Nat} {g : FuncId} {post : Array Value} {key : Nat → Int} (row : Row h0 b (dP xs) 1) (hb : hq.n ≤ b) (hn : xs.length < 20) (hx : ∀ x ∈ xs, x < N) (hc : CmpF Tryz.abEnv hq g post.toList N key) :
 Ret Tryz.abEnv 133 [.slice (some ⟨b, 0, some 1⟩) xs.length xs.length, .func (.func g) #[] post] h0 fun _ h' => Mo (· = b) h0 h' ∧ Row h' b (dP (di key (xs.length - 1) xs)) 1 := by
 refine ah (n := 9) (rs := []) rfl Tryz.e133 rfl rfl rfl (lbt rfl) ?_
 simp only [BS, LB, Nat.reduceLT, Nat.reduceEqDiff, Tryz.FFa1133]
 refine step_ret (stable_ok gq row hb hn hx hc) ?_
 rintro r h q
 simp only [BS]
 exact q
theorem rN {h0 : Hp} (ok : h0.t.Sized h0.n) {v : Value} {xs : List Nat} (hs : aB h0 1 eC v xs) (hl : xs.length < 1000000) (hx : xs ≠ []) : Ret Tryz.abEnv 63 [v] h0 fun r h' => Gr h0 h' ∧ ∃ b, r = .slice (some ⟨b, 0, some 1⟩) xs.length xs.length ∧ Row h' b (dP xs) 1 ∧ h0.n ≤ b := by
 have S := St.init (M := NoM) ok
 rcases hs with ⟨_, rfl⟩ | ⟨b, o, s, c, rfl, h2, h3⟩
 · exact absurd rfl hx
 · refine ah (n := 8) (rs := [.tmp 2]) rfl Tryz.e63 rfl rfl rfl (lbt rfl) ?_
   simp only [BS, LB, Nat.reduceLT, Nat.reduceEqDiff, Tryz.FFa163]
   refine ao (bT (by first | exact Tryz.u43) (by first | exact Tryz.e3E) (by decide) (by first | rfl | exact fillE )) S ?_; clear S; intro h bb S n_bb; simp only [aY, bD, an, List.cons_append, List.nil_append, List.append_nil, List.set_cons_zero, List.set_cons_succ, Nat.reduceMul, Nat.reduceAdd, Nat.zero_mul, Nat.zero_add, Nat.mul_one, Nat.one_mul] at S
   simp only [BS, LB, Nat.reduceLT, Nat.reduceEqDiff]
   have k0 := S.fr.n
   refine dt (S.cloneW (enc := eC) (ys := xs) Tryz.u43 Tryz.e3E (by decide) Tryz.n43 (.inr ⟨b, o, s, c, rfl, h2, S.old h3 (fun h => h)⟩) e6 (by decide) (by omega) (S.row m0)) ?_
   rintro h' v ⟨S', g, sl, hc, w⟩
   obtain ⟨b', rfl, row⟩ := w hx
   simp only [BS, LB, ag, Nat.reduceLT, Nat.reduceEqDiff]
   rw [nS] at row
   exact ⟨S'.gr, b', rfl, row, (hc b' rfl).elim (fun e => by omega) (fun e => Nat.le_trans k0 e)⟩
theorem first_ok {hq h0 : Hp} (gq : Gr hq h0) {N : Nat} {v : Value} {xs : List Nat} {g : FuncId} {post : Array Value} {key : Nat → Int} (hs : aB h0 1 eC v xs) (hne : xs ≠ []) (hn : xs.length < 20) (hx : ∀ x ∈ xs, x < N) (hc : CmpF Tryz.abEnv hq g post.toList N key) {m : Nat} (hm : 1 ≤ m) :
 Ret Tryz.abEnv 75 [v, .int .i64 (m : Nat), .func (.func g) #[] post] h0 fun r h' => Gr h0 h' ∧ aB h' 1 eC r ((di key (xs.length - 1) xs).take (min m xs.length)) ∧ ∀ c, ax r c → h0.n ≤ c := by
 have ok := gq.ok
 have mn : min (m : Int) (xs.length : Int) = ((min m xs.length : Nat) : Int) := by omega
 have pm := iu (key := key) (l := xs) (xs.length - 1) (by cases xs with | nil => exact absurd rfl hne | cons a l => simp)
 have S := St.init (M := NoM) ok
 refine ah (n := 18) (rs := [.tmp 6]) rfl Tryz.e75 rfl rfl rfl (lbt rfl) ?_
 simp only [BS, LB, Nat.reduceLT, Nat.reduceEqDiff]
 refine step_ret (rN S.ok hs (by omega) hne) ?_
 rintro r h ⟨g1, b, rfl, row, nb⟩
 have hbq : hq.n ≤ b := Nat.le_trans gq.n nb
 simp only [BS, LB, Nat.reduceLT, Nat.reduceEqDiff]
 refine step_ret (qW (gq.trans g1) row hbq hn hx hc) ?_
 rintro r h2 ⟨f, R⟩
 have sl := rj (kd := .i64) (b := b) (len := xs.length) (n := min m xs.length) Tryz.u43 Tryz.s3 (cap := xs.length) (Nat.min_le_right _ _)
 simp only [BS, LB, ag, Nat.reduceLT, Nat.reduceEqDiff, Option.map_some, Option.map_none, Tryz.FFa175, mn, sl]
 refine ⟨((g1.fr (M := NoM)).trans f (fun c e => .inr (by omega))).gr, ?_, fun c hc => by have hc : b = c := hc; omega⟩
 have tl : ((di key (xs.length - 1) xs).take (min m xs.length)).length = min m xs.length := by rw [List.length_take, pm.length_eq]; omega
 refine .inr ⟨b, 0, some 1, xs.length, by rw [tl], by rw [tl]; exact Nat.min_le_right _ _, ?_⟩
 rw [tl, R.load (by rw [kp, pm.length_eq]; omega), nS, List.drop_zero, Nat.mul_one]
 unfold dP
 rw [List.map_take]
end Go.Ab

end
section
namespace Go.Ab
open Go.Proofs
set_option maxRecDepth 10000
open Tryz in
def Tryz.FFa276 := aj a1 <| aj s1 <| aj z1 <| aj n1 <| aj u2 <| aj a2 <| aj s2 <| aj z2 <| aj i2 <| aj u3 <| aj a3 <| aj s3 <| aj z3 <| aj i3 <| aj u43 <| aj a43 <| aj s43 <| aj z43 <| aj q43 <| aj n43 <| aj u65 <| aj a65 <| aj s65 <| aj z65 <| aj q65 <| aj i65 <| aj n65 <| aj u68 <| aj a68 <| aj s68 <| aj z68 <| aj q68 <| aj n68 <| aj a128 <| aj s128 <| aj z128 <| aj i128 <| aj n128 <| aj p128 <| aj ff128 <| d128
open Tryz in
def Tryz.FFa263 := aj a1 <| aj s1 <| aj z1 <| aj n1 <| aj u2 <| aj a2 <| aj s2 <| aj z2 <| aj i2 <| aj u3 <| aj a3 <| aj s3 <| aj z3 <| aj i3 <| aj u4 <| aj a4 <| aj s4 <| aj z4 <| aj n4 <| aj u43 <| aj a43 <| aj s43 <| aj z43 <| aj q43 <| n43
open Tryz in
def Tryz.FFa2133 := aj u3 <| aj a3 <| aj s3 <| aj z3 <| aj i3 <| aj u43 <| aj a43 <| aj s43 <| aj z43 <| aj q43 <| aj n43 <| aj a137 <| aj s137 <| aj z137 <| n137
open Tryz in
def Tryz.FFa275 := aj a1 <| aj s1 <| aj z1 <| aj n1 <| aj u2 <| aj a2 <| aj s2 <| aj z2 <| aj i2 <| aj u3 <| aj a3 <| aj s3 <| aj z3 <| aj i3 <| aj u43 <| aj a43 <| aj s43 <| aj z43 <| aj q43 <| aj n43 <| aj a137 <| aj s137 <| aj z137 <| n137
open Tryz in
def Tryz.FFa223 := aj a1 <| aj s1 <| aj z1 <| aj n1 <| aj u2 <| aj a2 <| aj s2 <| aj z2 <| aj i2 <| aj u3 <| aj a3 <| aj s3 <| aj z3 <| aj i3 <| aj u4 <| aj a4 <| aj s4 <| aj z4 <| aj n4 <| aj u5 <| aj a5 <| aj s5 <| aj z5 <| aj i5 <| aj u6 <| aj a6 <| aj s6 <| aj z6 <| aj i6 <| aj a7 <| aj s7 <| aj z7 <| aj i7 <| aj n7 <| aj p7 <| aj ff7 <| aj d7 <| aj u43 <| aj a43 <| aj s43 <| aj z43 <| aj q43 <| aj n43 <| aj u65 <| aj a65 <| aj s65 <| aj z65 <| aj q65 <| aj i65 <| aj n65 <| aj u68 <| aj a68 <| aj s68 <| aj z68 <| aj q68 <| aj n68 <| aj a128 <| aj s128 <| aj z128 <| aj i128 <| aj n128 <| aj p128 <| aj ff128 <| aj d128 <| aj a137 <| aj s137 <| aj z137 <| n137
def keyB (N n : Nat) (R Q : Nat → List Int) (s w : Int) (i : Nat) : Int := fZ N n R Q i s w
def actL (N n : Nat) (R Q : Nat → List Int) (s w most : Int) : List Nat := (di (keyB N n R Q s w) (n - 1) (List.range n)).take (min (max most 1).toNat n)
theorem tV {hq : Hp} {m N : Nat} {p : Value} {l : List Int} {R Q : Nat → List Int} (t : TabAt hq m p N l R Q) (hR : ∀ i, i < l.length → (R i).length = N) (hQ : ∀ i, i < l.length → (Q i).length = N) (hl : l.length < 1000) {s w : Int} {b4 b5 b6 : Nat} (l4 : hq.load b4 0 1 = some [p]) (l5 : hq.load b5 0 1 = some [.int .i64 s]) (l6 : hq.load b6 0 1 = some [.int .i64 w]) :
 CmpF Tryz.abEnv hq 76 [ptrTo b4, ptrTo b5, ptrTo b6] l.length (keyB N l.length R Q s w) := by
 intro h g i j hi hj
 have fp : Fl p := by obtain ⟨b, _, _, _, rfl, _⟩ := t.ex; exact aX
 have S := St.init (M := NoM) g.ok
 have z4 := cG g.ok (g.load l4)
 have z5 := cG g.ok (g.load l5)
 have z6 := cG g.ok (g.load l6)
 refine ah (n := 19) (rs := [.tmp 7]) rfl Tryz.e76 rfl rfl rfl (lbt rfl) ?_
 simp only [BS, LB]
 refine aI (aR rfl) (q := 0) (ps := [(4, 8), (4, 7), (4, 5)]) (by kernel_rfl) ?_
 simp only [BS, LB, cls, Nat.reduceLT, Nat.reduceEqDiff, Nat.reduceAdd, Nat.reducePow, Nat.reduceDiv, Nat.reduceMod, Nat.reduceLeDiff, Tryz.FFa276, g.load l4, g.load l5, g.load l6]
 refine eG (jr S.ok ((t.gr g).gr S.gr) hR hQ hl) ?_
 intro h1 g1
 have v4 := aW g1 z4
 have v5 := aW g1 z5
 have v6 := aW g1 z6
 replace S := S.call g1
 simp only [BS, LB, cls, Nat.reduceLT, Nat.reduceEqDiff, Nat.reduceAdd, Nat.reducePow, Nat.reduceDiv, Nat.reduceMod, Nat.reduceLeDiff, Tryz.FFa276, g1.load (g.load l4), g1.load (g.load l5), g1.load (g.load l6)]
 refine eG (jr S.ok ((t.gr g).gr S.gr) hR hQ hl) ?_
 intro h2 g2
 replace S := S.call g2
 simp only [BS, LB, cls, Nat.reduceLT, Nat.reduceEqDiff, Nat.reduceAdd, Nat.reducePow, Nat.reduceDiv, Nat.reduceMod, Nat.reduceLeDiff]
 refine eG (rz S.ok) ?_
 intro h3 g3
 replace S := S.call g3
 simp only [BS, LB, cls, ag, Nat.reduceLT, Nat.reduceEqDiff, Nat.reduceAdd, Nat.reducePow, Nat.reduceDiv, Nat.reduceMod, Nat.reduceLeDiff]
 refine ⟨by simp only [bL, bR, bC, bU, bF, ne_eq, not_false_eq_true, bW, cB, bJ, bG, cK, dk, bH, Nat.reduceLT, Nat.reduceEqDiff, reduceIte, Bool.and_true, ae, cV, bn v4, bn v5, bn v6], ?_⟩
 exact ⟨rfl, S.gr⟩
theorem insNil_ok {h0 : Hp} (ok : h0.t.Sized h0.n) {v : Value} : bQ Tryz.abEnv 205 [.slice none 0 0, .int .i64 0, .int .i64 0, v] h0 (.tuple #[]) := by
 have S := St.init (M := NoM) ok
 have w1 : au .i64 1 = 1 := rfl
 have c1 : ¬ (1 : Int) < 0 := by decide
 refine ah (n := 53) (rs := []) rfl Tryz.e205 rfl rfl rfl (lbt rfl) ?_
 simp only [BS, LB, Nat.reduceLT, Nat.reduceEqDiff, Int.reduceAdd, w1]
 rw [ce]
 simp only [BS, LB, ag, Nat.reduceLT, Nat.reduceEqDiff, c1]
 exact S.gr
theorem tC {h0 : Hp} (ok : h0.t.Sized h0.n) {m : Nat} {g : FuncId} {post : Array Value} : bQ Tryz.abEnv 75 [.slice none 0 0, .int .i64 (m : Nat), .func (.func g) #[] post] h0 (.slice none 0 0) := by
 have S := St.init (M := NoM) ok
 have cl : bQ Tryz.abEnv 63 [.slice none 0 0] h0 (.slice none 0 0) := by
  refine ah (n := 8) (rs := [.tmp 2]) rfl Tryz.e63 rfl rfl rfl (lbt rfl) ?_
  simp only [BS, LB, ag, Nat.reduceLT, Nat.reduceEqDiff, Tryz.FFa263]
  exact S.gr
 have mn : min (m : Int) 0 = 0 := by omega
 have c1 : ¬ (20 : Int) ≤ 0 := by decide
 have c2 : ¬ (20 : Int) < 0 := by decide
 have so : ∀ {h : Hp}, h.t.Sized h.n → bQ Tryz.abEnv 133 [.slice none 0 0, .func (.func g) #[] post] h (.tuple #[]) := fun {h} okh => by
  have S := St.init (M := NoM) okh
  have st : bQ Tryz.abEnv 185 [.slice none 0 0, .int .i64 0, .func (.func g) #[] post] h (.tuple #[]) := by
   refine ah (n := 63) (rs := []) rfl Tryz.e185 rfl rfl rfl (lbt rfl) ?_
   simp only [BS, LB, Nat.reduceLT, Nat.reduceEqDiff]
   rw [ce]
   simp only [BS, LB, Nat.reduceLT, Nat.reduceEqDiff, c1]
   refine ar (insNil_ok S.ok) ?_; intro h g; replace S := S.call g; clear g
   simp only [BS]
   rw [ce]
   simp only [BS, LB, ag, Nat.reduceLT, Nat.reduceEqDiff, c2]
   exact S.gr
  refine ah (n := 9) (rs := []) rfl Tryz.e133 rfl rfl rfl (lbt rfl) ?_
  simp only [BS, LB, Nat.reduceLT, Nat.reduceEqDiff, Int.cast_ofNat_Int, Tryz.FFa2133]
  refine ar st ?_; intro h' g'; replace S := S.call g'
  simp only [BS, LB, ag]
  exact S.gr
 have sl : dM Tryz.abEnv 43 (.slice none 0 0) none (some (.int .i64 0)) none = some (.slice none 0 0) := by
  simp only [dM, Tryz.u43, Tryz.s3, dE, dC]
  rfl
 refine ah (n := 18) (rs := [.tmp 6]) rfl Tryz.e75 rfl rfl rfl (lbt rfl) ?_
 simp only [BS, LB, Nat.reduceLT, Nat.reduceEqDiff]
 refine ar cl ?_; intro h g1; replace S := S.call g1
 simp only [BS, LB, Nat.reduceLT, Nat.reduceEqDiff]
 refine ar (so S.ok) ?_; intro h g1; replace S := S.call g1
 simp only [BS, LB, ag, Nat.reduceLT, Nat.reduceEqDiff, Int.cast_ofNat_Int, Option.map_some, Option.map_none, Tryz.FFa275, mn, sl]
 exact S.gr
theorem tQ {h0 : Hp} (ok : h0.t.Sized h0.n) {m N : Nat} {p : Value} {l : List Int} {R Q : Nat → List Int} (t : TabAt h0 m p N l R Q) (hR : ∀ i, i < l.length → (R i).length = N) (hQ : ∀ i, i < l.length → (Q i).length = N) (hl : l.length ≤ 16) {s w most : Int} :
 Ret Tryz.abEnv 23 [p, .int .i64 s, .int .i64 w, .int .i64 most] h0 fun r h' => Gr h0 h' ∧ aB h' 1 eC r (actL N l.length R Q s w most) ∧ ∀ c, ax r c → h0.n ≤ c := by
 have S := St.init (M := NoM) ok
 have fp : Fl p := by obtain ⟨b, _, _, _, rfl, _⟩ := t.ex; exact aX
 obtain ⟨mk, hmk⟩ : ∃ k : Nat, max most 1 = (k : Int) := ⟨(max most 1).toNat, by omega⟩
 have hmk' : (max most 1).toNat = mk := by omega
 refine ah (n := 27) (rs := [.tmp 8]) rfl Tryz.e23 rfl rfl rfl (lbt rfl) ?_
 simp only [BS, Nat.reduceLT]
 refine ao (fE (by first | exact aM | exact aw | exact aX | exact aT | exact bo | exact aP | exact aU | exact aK | exact aV | exact bz | assumption)) S ?_; clear S; intro h b4 S n_b4
 simp only [BS, Nat.reduceLT, Nat.reduceEqDiff, if_false]
 refine ao (fE (by first | exact aM | exact aw | exact aX | exact aT | exact bo | exact aP | exact aU | exact aK | exact aV | exact bz | assumption)) S ?_; clear S; intro h b5 S n_b5
 simp only [BS, Nat.reduceLT, Nat.reduceEqDiff, if_false]
 refine ao (fE (by first | exact aM | exact aw | exact aX | exact aT | exact bo | exact aP | exact aU | exact aK | exact aV | exact bz | assumption)) S ?_; clear S; intro h b6 S n_b6
 simp only [BS, LB, Nat.reduceLT, Nat.reduceEqDiff, Tryz.FFa223, S.ld (b := b4) (o := 0) (by repeat constructor) rfl]
 have k0 := S.fr.n
 refine step_ret (kX S.ok (t.gr S.gr) (by omega)) ?_
 rintro r h ⟨g, sl, hc⟩
 replace S := S.call g
 simp only [BS, LB, Nat.reduceLT, Nat.reduceEqDiff, Tryz.FFa223, sl.lenq]
 replace S := S.nilG (k := 1)
 refine bE (fun (i : Nat) ρ h => i ≤ l.length ∧ ∃ vR, St NoM h0 h [(b6, .row [.int .i64 w] 1), (b5, .row [.int .i64 s] 1), (b4, .row [p] 1)] [(vR, 1, dP (List.range i))] ∧ (i = 0 → vR = .slice none 0 0) ∧ ρ 3 = .int .i64 most ∧ ρ 4 = ptrTo b4 ∧ ρ 5 = ptrTo b5 ∧ ρ 6 = ptrTo b6 ∧ ρ 9 = vR ∧ ρ 13 = .int .i64 (l.length : Nat) ∧ ρ 14 = .int .i64 i) (fun i => l.length - i) ?_ 0 _ _ ?_
 · clear S
   intro i ih ρ h ⟨hi, vR, S, hv, r3, r4, r5, r6, r9, r13, r14⟩
   have wi : au .i64 ((i : Int) + 1) = ((i + 1 : Nat) : Int) := by rw [wrap64] <;> omega
   by_cases hlt : i < l.length
   · simp only [BS, LB, Nat.reduceLT, Nat.reduceEqDiff, r9, r13, r14, aF, hlt]
     refine ao (bT (by first | exact Tryz.u43 | exact Tryz.u68) (by first | exact Tryz.e3E | exact Tryz.e25E) (by decide) (by first | rfl | exact fillE )) S ?_; clear S; intro h bt S n_bt; simp only [aY, bD, an, List.cons_append, List.nil_append, List.append_nil, List.set_cons_zero, List.set_cons_succ, Nat.reduceMul, Nat.reduceAdd, Nat.zero_mul, Nat.zero_add, Nat.mul_one, Nat.one_mul] at S
     simp only [BS, LB, Nat.reduceLT, Nat.reduceEqDiff]
     have src : aH h 1 (.slice (some ⟨bt, 0, none⟩) 1 1) = some (1, [.int .i64 (i : Nat)]) := by simp only [aH]; rw [S.lds (b := bt) (o := 0) (n := 1 * 1) m0 (lbt rfl)]; rfl
     replace S := S.drop1
     refine dt (S.grow (j := 0) (m := 1) (new := [.int .i64 (i : Nat)]) rfl Tryz.u43 Tryz.e3E (by decide) Tryz.n43 src rfl (by decide) rfl (by rw [kp]; simp; omega)) ?_
     clear S src; rintro h vR' S
     simp only [List.set_cons_zero] at S
     have e : dP (List.range i) ++ [.int .i64 (i : Nat)] = dP (List.range (i + 1)) := by unfold dP; rw [List.range_succ, List.map_append]; rfl
     rw [e] at S
     simp only [BS, LB, Nat.reduceLT, Nat.reduceEqDiff, r14, wi]
     exact ih (i + 1) _ _ (by omega) ⟨by omega, vR', S, fun h => (by omega), by simp [aa, r3], by simp [aa, r4, ae], by simp [aa, r5, ae], by simp [aa, r6, ae], by simp [aa], by simp [aa, r13], by simp [aa]⟩
   · have ei : i = l.length := by omega
     subst ei
     simp only [BS, LB, Nat.reduceLT, Nat.reduceEqDiff, r3, r4, r5, r6, r9, r13, r14, aF, hlt]
     by_cases hn : l.length = 0
     · have ev := hv hn
       subst ev
       have kS := S.fr.n
       rw [hmk]
       refine ar (tC S.ok) ?_
       intro h' g
       replace S := S.call g
       simp only [BS, LB, ag, Nat.reduceLT, Nat.reduceEqDiff]
       refine ⟨S.gr, .inl ⟨rfl, ?_⟩, fun c hc => hc.elim⟩
       unfold actL
       rw [hn]; simp
     · have sA : aB h 1 eC vR (List.range l.length) := (S.gown _ m0).1.sl (nS _).symm e6 (by decide)
       have kS := S.fr.n
       have cf := tV (t.gr S.gr) hR hQ (by omega) (s := s) (w := w) (b4 := b4) (b5 := b5) (b6 := b6) (S.ld m2 rfl) (S.ld m1 rfl) (S.ld m0 rfl)
       rw [hmk]
       refine step_ret (first_ok (N := l.length) (m := mk) (Gr.refl S.ok) sA (by intro e; have := congrArg List.length e; rw [List.length_range] at this; exact hn this) (by simp; omega) (fun x hx => List.mem_range.1 hx) cf (by omega)) ?_
       rintro r h' ⟨g, sl', hc'⟩
       replace S := S.call g
       simp only [BS, LB, ag, Nat.reduceLT, Nat.reduceEqDiff]
       rw [List.length_range] at sl'
       exact ⟨S.gr, by unfold actL; rw [hmk']; exact sl', fun c hc => Nat.le_trans kS (hc' c hc)⟩
 · exact ⟨Nat.zero_le _, _, S, fun _ => rfl, by simp [aa, cV], by simp [aa, ae], by simp [aa, ae], by simp [aa, ae], by simp [aa], by simp [aa], by simp [aa]⟩
end Go.Ab

end
section
namespace Go.Ab
open Go.Proofs
set_option maxRecDepth 10000
open Tryz in
def Tryz.FFba5 := aj a1 <| aj s1 <| aj z1 <| aj n1 <| aj u2 <| aj a2 <| aj s2 <| aj z2 <| aj i2 <| aj u3 <| aj a3 <| aj s3 <| aj z3 <| aj i3 <| aj u4 <| aj a4 <| aj s4 <| aj z4 <| aj n4 <| aj u5 <| aj a5 <| aj s5 <| aj z5 <| aj i5 <| aj u6 <| aj a6 <| aj s6 <| aj z6 <| aj i6 <| aj a7 <| aj s7 <| aj z7 <| aj i7 <| aj n7 <| aj p7 <| aj ff7 <| aj d7 <| aj a8 <| aj s8 <| aj z8 <| aj i8 <| aj n8 <| aj p8 <| aj ff8 <| aj d8 <| aj u9 <| aj a9 <| aj s9 <| aj z9 <| aj n9 <| aj u10 <| aj a10 <| aj s10 <| aj z10 <| aj n10 <| aj u11 <| aj a11 <| aj s11 <| aj z11 <| aj n11 <| aj u12 <| aj a12 <| aj s12 <| aj z12 <| aj i12 <| aj a13 <| aj s13 <| aj z13 <| aj i13 <| aj n13 <| aj p13 <| aj ff13 <| aj d13 <| aj a14 <| aj s14 <| aj z14 <| aj i14 <| aj n14 <| aj p14 <| aj ff14 <| aj d14 <| aj u15 <| aj a15 <| aj s15 <| aj z15 <| aj q15 <| aj i15 <| aj n15 <| aj u16 <| aj a16 <| aj s16 <| aj z16 <| aj q16 <| aj i16 <| aj n16 <| aj u17 <| aj a17 <| aj s17 <| aj z17 <| aj q17 <| aj i17 <| aj n17 <| aj a18 <| aj s18 <| aj z18 <| aj i18 <| aj n18 <| aj p18 <| aj ff18 <| aj d18 <| aj a19 <| aj s19 <| aj z19 <| aj i19 <| aj n19 <| aj p19 <| aj ff19 <| aj d19 <| aj a20 <| aj s20 <| aj z20 <| aj q20 <| aj n20 <| aj u21 <| aj a21 <| aj s21 <| aj z21 <| aj i21 <| aj u22 <| aj a22 <| aj s22 <| aj z22 <| aj q22 <| aj n22 <| aj u23 <| aj a23 <| aj s23 <| aj z23 <| aj n23 <| aj u24 <| aj a24 <| aj s24 <| aj z24 <| aj n24 <| aj u25 <| aj a25 <| aj s25 <| aj z25 <| aj q25 <| aj n25 <| aj a26 <| aj s26 <| aj z26 <| aj i26 <| aj n26 <| aj p26 <| aj ff26 <| aj d26 <| aj a27 <| aj s27 <| aj z27 <| aj i27 <| aj n27 <| aj p27 <| aj ff27 <| aj d27 <| aj a28 <| aj s28 <| aj z28 <| aj n28 <| aj u29 <| aj a29 <| aj s29 <| aj z29 <| aj q29 <| aj n29 <| aj a30 <| aj s30 <| aj z30 <| aj i30 <| aj n30 <| aj p30 <| aj ff30 <| aj d30 <| aj a31 <| aj s31 <| aj z31 <| aj i31 <| aj n31 <| aj p31 <| aj ff31 <| aj d31 <| aj u33 <| aj a33 <| aj s33 <| aj z33 <| aj q33 <| aj i33 <| aj n33 <| aj u43 <| aj a43 <| aj s43 <| aj z43 <| aj q43 <| aj n43 <| aj a56 <| aj s56 <| aj z56 <| aj i56 <| aj n56 <| aj p56 <| aj ff56 <| aj d56 <| aj u59 <| aj a59 <| aj s59 <| aj z59 <| aj q59 <| aj n59 <| aj u60 <| aj a60 <| aj s60 <| aj z60 <| aj i60 <| aj a62 <| aj s62 <| aj z62 <| aj i62 <| aj n62 <| aj p62 <| aj ff62 <| aj d62 <| aj u65 <| aj a65 <| aj s65 <| aj z65 <| aj q65 <| aj i65 <| aj n65 <| aj u68 <| aj a68 <| aj s68 <| aj z68 <| aj q68 <| aj n68 <| aj u70 <| aj a70 <| aj s70 <| aj z70 <| aj n70 <| aj a128 <| aj s128 <| aj z128 <| aj i128 <| aj n128 <| aj p128 <| aj ff128 <| aj d128 <| aj u156 <| aj a156 <| aj s156 <| aj z156 <| aj q156 <| aj i156 <| aj n156 <| aj u163 <| aj a163 <| aj s163 <| aj z163 <| aj q163 <| aj n163 <| aj a165 <| aj s165 <| aj z165 <| aj i165 <| aj n165 <| aj p165 <| aj ff165 <| aj d165 <| aj u231 <| aj a231 <| aj s231 <| aj z231 <| aj i231 <| aj u283 <| aj a283 <| aj s283 <| aj z283 <| aj i283 <| aj a300 <| aj s300 <| aj z300 <| aj i300 <| aj n300 <| aj p300 <| aj ff300 <| aj d300 <| aj u301 <| aj a301 <| aj s301 <| aj z301 <| aj n301 <| aj a303 <| aj s303 <| aj z303 <| aj i303 <| aj n303 <| aj u305 <| aj a305 <| aj s305 <| aj z305 <| aj i305 <| aj a306 <| aj s306 <| aj z306 <| aj n306 <| aj u307 <| aj a307 <| aj s307 <| aj z307 <| aj i307 <| aj u308 <| aj a308 <| aj s308 <| aj z308 <| aj i308 <| aj a310 <| aj s310 <| aj z310 <| aj i310 <| aj n310 <| aj p310 <| aj ff310 <| d310
theorem worksA_ok {h0 : Hp} (ok : h0.t.Sized h0.n) : bQ Tryz.abEnv 18 [] h0 (.bool true) := ret_orc rfl ⟨rfl, Gr.refl ok⟩
theorem extr_3 {a b c d : Value} {l : List Value} : extrR 3 (.tuple ⟨a :: b :: c :: d :: l⟩) = some d := rfl
theorem aB.form2 {α : Type} {h : Hp} {k : Nat} {enc : α → List Value} {v : Value} {l : List α} (s : aB h k enc v l) : ∃ a c, v = .slice a l.length c := by
 rcases s with ⟨rfl, rfl⟩ | ⟨b, o, s, c, rfl, _⟩ <;> exact ⟨_, _, rfl⟩
theorem tG {x : Tch} : gf (some x) none = true := by cases x <;> rfl
def uF (A : List Nat) (k v : Nat) : Nat := if v ∈ A.take k then 1 else 0
theorem uF_step {A : List Nat} {k v : Nat} (hk : k < A.length) (hv : v ≠ A[k]) : uF A (k + 1) v = uF A k v := by
 unfold uF
 rw [List.take_succ_eq_append_getElem hk]
 simp only [List.mem_append, List.mem_singleton, hv, or_false]
theorem uF_new {A : List Nat} {k x : Nat} (hk : k < A.length) (hx : A[k] = x) : uF A (k + 1) x = 1 := by
 unfold uF
 rw [List.take_succ_eq_append_getElem hk]
 simp only [List.mem_append, List.mem_singleton, hx, or_true, if_true]
theorem qG {x : Option Tch} : gf none x = true := by cases x <;> rfl
theorem uB {A : List Nat} (h : A.Nodup) {k : Nat} (hk : k < A.length) : A[k] ∉ A.take k := fun hm => by
 obtain ⟨j, hj, e⟩ := List.getElem_of_mem hm
 rw [List.length_take] at hj
 rw [List.getElem_take] at e
 exact List.pairwise_iff_getElem.1 h j k (by omega) hk (by omega) e
theorem two_at {p q : Value} {i : Nat} (hi : i < 2) : jI Tryz.abEnv 70 (.agg ⟨[p, q]⟩) (.int .i64 (i : Nat)) = some (if i = 0 then p else q) := by
 rcases (by omega : i = 0 ∨ i = 1) with rfl | rfl <;> rfl
theorem SlW.gr {h h' : Hp} {kd : IntKind} {v : Value} {xs : List Int} (s : SlW h kd v xs) (g : Gr h h') : SlW h' kd v xs := s.imp (fun h => h) (fun ⟨b, o, c, h1, h2, h3⟩ => ⟨b, o, c, h1, h2, g.load h3⟩)
theorem qk (B : List Arc) (N s : Nat) : (rowD B N s).length = N := by simp [rowD]
theorem two_of {p q : Nat} : je Tryz.abEnv 70 [(0, .pointer (some ⟨p, 0, none⟩)), (1, .pointer (some ⟨q, 0, none⟩))] = some (.agg ⟨[.pointer (some ⟨p, 0, none⟩), .pointer (some ⟨q, 0, none⟩)]⟩) := rfl
theorem actL_eq (N n : Nat) (R Q : Nat → List Int) (s w most : Int) : actL N n R Q s w most = gK (keyB N n R Q s w) n (min (max most 1).toNat n) := rfl
theorem nV {h0 : Hp} (ok : h0.t.Sized h0.n) {vB vM vA vN : Value} {sI wI most : Int} {B ms as_ ns : List Int} (hB : SlW h0 .u8 vB B) (hM : SlW h0 .u8 vM ms) (hMr : ∀ x ∈ ms, 0 ≤ x ∧ x ≤ 255) (hA : SlW h0 .i8 vA as_) (hAr : ∀ x ∈ as_, -128 ≤ x ∧ x ≤ 127) (hN : SlW h0 .i64 vN ns) (hns : ns.length ≤ 9223372036854775807) :
 bQ Tryz.abEnv 5 [.agg ⟨[vB, vM, vA, vN, .int .i8 sI, .int .i8 wI]⟩, .int .i8 most] h0 (.bool true) := by
 have S := St.init (M := NoM) ok
 have fB := hB.sl.fl
 have fM := hM.sl.fl
 have fA := hA.sl.fl
 have fN := hN.sl.fl
 refine ah (n := 196) (rs := [.tmp 4]) rfl Tryz.e5 rfl rfl rfl (lbt rfl) ?_
 simp only [BS, Nat.reduceLT]
 refine ao (bS (by intro x e; cases e)) S ?_; clear S; intro h b2 S n_b2; simp only [an] at S
 simp only [BS, LB]
 refine ar (worksA_ok S.ok) ?_; intro h g; replace S := S.call g; clear g
 simp only [BS, LB, Nat.reduceLT, Nat.reduceEqDiff, Tryz.FFba5, List.drop_zero, List.take_succ_cons, List.take_zero, S.lds (b := b2) (o := 0) (n := 6) (by repeat constructor) (lbt rfl)]
 have old : ∀ {kd v xs}, SlW h0 kd v xs → SlW h kd v xs := fun s => s.imp (fun h => h) (fun ⟨b, o, c, h1, h2, h3⟩ => ⟨b, o, c, h1, h2, S.old h3 (fun h => h)⟩)
 refine step_ret (made18_ok S.ok (old hB) (old hM) hMr (old hA) hAr fN) ?_; intro v h ⟨g, γ, vx, vy, va, pn, vl, vc, l, act, nb, er, hγ, ga, hp, sl, hl, hl6, slC, hact, gC⟩; replace S := S.call g; clear g
 subst er
 obtain ⟨bp, ep⟩ : ∃ b, pn = ptrTo b := by obtain ⟨b, _, _, _, _, _, e, _⟩ := hp.ex; exact ⟨b, e⟩
 subst ep
 have n1 := hγ.n1
 have n2 := hγ.n2
 have many := hγ.many
 have fx := ga.X.fl
 have fy := ga.Y.fl
 have fa := ga.A.fl
 have r2 := (S.row (b := b2) m0).load1 (o := 0) rfl
 have R2 := (S.row (b := b2) m0)
 have g0 := S.gr
 clear S old
 have S := St.init (M := NoM) g0.ok
 simp only [BS, LB, Nat.reduceLT, Nat.reduceEqDiff, Tryz.FFba5, gU, extr_3]
 refine ao aJ S ?_; clear S; intro h b5 S n_b5
 simp only [BS, LB, Nat.reduceLT, Nat.reduceEqDiff]
 refine ac (S.store (i := 0) rfl Tryz.s31 (by intro x e; cases e) rfl (by simp only [an, List.all_cons, List.all_nil, fx.2.1, fy.2.1, fa.2.1, Bool.and_true]; rfl) (lbt rfl) ono) ?_
 clear S; rintro h ⟨S, mo⟩
 simp only [List.set_cons_zero, List.set_cons_succ, an, lay, List.take, List.drop, List.nil_append, List.cons_append, List.append_nil, List.length_cons, List.length_nil, Nat.reduceAdd, Nat.add_zero] at S
 simp only [BS, LB, Nat.reduceLT, Nat.reduceEqDiff, Tryz.FFba5]
 replace hp := hp.gr S.gr
 replace sl := sl.gr S.gr
 replace R2 := R2.gr S.gr
 have R5 := S.row (b := b5) m0
 have q2 := R2.lt S.ok
 have q5 := R5.lt S.ok
 have g1 := g0.trans S.gr
 have okB := S.ok
 clear S g0 mo slC gC
 have S := St.init (M := NoM) okB
 rename Hp => hC
 have fl := sl.fl
 obtain ⟨la, lc, rfl⟩ := sl.form2
 have q6 : ∀ a, la = some a → a.block < hC.n := fun a e => sl.lt S.ok (by subst e; exact rfl)
 refine aI (aR rfl) (q := 0) (ps := [(4, 17), (11, 16), (2, 16), (11, 14), (2, 14), (11, 12), (2, 12), (4, 11), (2, 10), (2, 8), (2, 6), (2, 4)]) (by kernel_rfl) ?_
 simp only [BS, LB, cls, Nat.reduceLT, Nat.reduceEqDiff, Nat.reduceAdd, Nat.reducePow, Nat.reduceDiv, Nat.reduceMod, Nat.reduceLeDiff]
 refine dO (tabOf_ok S.ok hγ hp sl (by omega)) ?_
 rintro pt1 h ⟨g, hT⟩
 replace hT := (hT.resolve_left (fun h => h.1 hl)).2
 obtain ⟨bt, et⟩ : ∃ b, pt1 = ptrTo b := by obtain ⟨b, _, _, _, e, _⟩ := hT.ex; exact ⟨b, e⟩
 subst et
 have e21 : leaves _ _ b2 = true := aW g q2
 have e51 : leaves _ _ b5 = true := aW g q5
 have e61 : ∀ a, la = some a → leaves _ _ a.block = true := fun a e => aW g (q6 a e)
 have k1 := g.n
 replace S := S.call g; clear g
 have l2 : h.load b2 0 6 = some [vB, vM, vA, vN, .int .i8 sI, .int .i8 wI] := (R2.gr S.gr).load (Nat.le_refl 6)
 have l5 := (R5.gr S.gr).load1 (o := 0) rfl
 simp only [BS, LB, cls, Nat.reduceLT, Nat.reduceEqDiff, Nat.reduceAdd, Nat.reducePow, Nat.reduceDiv, Nat.reduceMod, Nat.reduceLeDiff, Tryz.FFba5, l5, l2, sl.lenq]
 refine dO (qD S.ok fB fM fA (hN.gr (g1.trans S.gr)) (f := 3) (n := l.length) (N := γ.nodes) (by omega) (by omega) (by omega) hns) ?_
 rintro y1 h ⟨g, R1, L1, o1⟩
 have e22 : leaves _ _ b2 = true := aW g (Nat.lt_of_lt_of_le q2 k1)
 have e52 : leaves _ _ b5 = true := aW g (Nat.lt_of_lt_of_le q5 k1)
 have e62 : ∀ a, la = some a → leaves _ _ a.block = true := fun a e => aW g (Nat.lt_of_lt_of_le (q6 a e) k1)
 have k2 := Nat.le_trans k1 g.n
 replace S := S.call g; replace hT := hT.gr g; clear g
 obtain ⟨ya, yn, yc, rfl⟩ : ∃ a n c, y1 = .slice a n c := by obtain ⟨_, s, _⟩ := L1; exact s.form
 have l2 : h.load b2 0 6 = some [vB, vM, vA, vN, .int .i8 sI, .int .i8 wI] := (R2.gr S.gr).load (Nat.le_refl 6)
 have l5 := (R5.gr S.gr).load1 (o := 0) rfl
 simp only [BS, LB, cls, Nat.reduceLT, Nat.reduceEqDiff, Nat.reduceAdd, Nat.reducePow, Nat.reduceDiv, Nat.reduceMod, Nat.reduceLeDiff, Tryz.FFba5, l5, l2, sl.lenq]
 refine dO (qD S.ok fB fM fA (hN.gr (g1.trans S.gr)) (f := 5) (n := l.length) (N := γ.nodes) (by omega) (by omega) (by omega) hns) ?_
 rintro y2 h ⟨g, Q1, L2, o2⟩
 have e23 : leaves _ _ b2 = true := aW g (Nat.lt_of_lt_of_le q2 k2)
 have e53 : leaves _ _ b5 = true := aW g (Nat.lt_of_lt_of_le q5 k2)
 have e63 : ∀ a, la = some a → leaves _ _ a.block = true := fun a e => aW g (Nat.lt_of_lt_of_le (q6 a e) k2)
 have k3 := Nat.le_trans k2 g.n
 replace S := S.call g; replace hT := hT.gr g; replace L1 := L1.gr g; clear g
 obtain ⟨za, zn, zc, rfl⟩ : ∃ a n c, y2 = .slice a n c := by obtain ⟨_, s, _⟩ := L2; exact s.form
 simp only [BS, LB, cls, Nat.reduceLT, Nat.reduceEqDiff, Nat.reduceAdd, Nat.reducePow, Nat.reduceDiv, Nat.reduceMod, Nat.reduceLeDiff]
 refine dO (make_ok S.ok (sl.gr S.gr) L1 L2 n1 (by omega) hl o1 o2) ?_
 rintro pt2 h ⟨g, hU⟩
 have e24 : leaves _ _ b2 = true := aW g (Nat.lt_of_lt_of_le q2 k3)
 have e54 : leaves _ _ b5 = true := aW g (Nat.lt_of_lt_of_le q5 k3)
 have e64 : ∀ a, la = some a → leaves _ _ a.block = true := fun a e => aW g (Nat.lt_of_lt_of_le (q6 a e) k3)
 replace S := S.call g; replace hT := hT.gr g; clear g L1 L2
 obtain ⟨bu, et⟩ : ∃ b, pt2 = ptrTo b := by obtain ⟨b, _, _, _, e, _⟩ := hU.ex; exact ⟨b, e⟩
 subst et
 simp only [BS, LB, cls, Nat.reduceLT, Nat.reduceEqDiff, Nat.reduceAdd, Nat.reducePow, Nat.reduceDiv, Nat.reduceMod, Nat.reduceLeDiff, two_of]
 refine ⟨by
  cases la with
  | none => simp only [bL, bR, bC, bU, bF, ne_eq, not_false_eq_true, bW, cB, bJ, lI, bG, iY, cK, dk, bH, Nat.reduceLT, Nat.reduceEqDiff, reduceIte, Bool.and_true, ae, aS e21, bn e21, aS e22, bn e22, aS e23, bn e23, aS e24, bn e24, aS e51, bn e51, aS e52, bn e52, aS e53, bn e53, aS e54, bn e54, tG, kP, Bool.true_and]
  | some a => simp only [bL, bR, bC, bU, bF, ne_eq, not_false_eq_true, bW, cB, bJ, lI, bG, iY, cK, dk, bH, Nat.reduceLT, Nat.reduceEqDiff, reduceIte, Bool.and_true, ae, aS e21, bn e21, aS e22, bn e22, aS e23, bn e23, aS e24, bn e24, aS e51, bn e51, aS e52, bn e52, aS e53, bn e53, aS e54, bn e54, aS (e61 a rfl), bn (e61 a rfl), aS (e62 a rfl), bn (e62 a rfl), aS (e63 a rfl), bn (e63 a rfl), aS (e64 a rfl), bn (e64 a rfl)], ?_⟩
 have gD := S.gr
 have okD := S.ok
 have T1 : ∃ m R Q, TabAt h m (ptrTo bt) γ.nodes l R Q ∧ (∀ i, i < l.length → (R i).length = γ.nodes) ∧ (∀ i, i < l.length → (Q i).length = γ.nodes) := ⟨_, _, _, hT, fun i _ => qk _ _ _, fun i _ => qk _ _ _⟩
 have T2 : ∃ m R Q, TabAt h m (ptrTo bu) γ.nodes l R Q ∧ (∀ i, i < l.length → (R i).length = γ.nodes) ∧ (∀ i, i < l.length → (Q i).length = γ.nodes) := ⟨_, _, _, hU, fun i hi => (o1 i hi).1, fun i hi => (o2 i hi).1⟩
 replace R2 := R2.gr gD
 replace R5 := R5.gr gD
 replace sl := sl.gr gD
 replace g1 := g1.trans gD
 clear S hT hU q6 e61 e62 e63 e64 e21 e22 e23 e24 e51 e52 e53 e54 k1 k2 k3 l2 l5 hp gD o1 o2 R1 Q1 q2 q5
 have S := St.init (M := NoM) okD
 rename Hp => hD
 refine bE (fun (z : Nat) ρ h' => z ≤ 2 ∧ St NoM hD h' [] [] ∧ ρ 1 = .int .i8 most ∧ ρ 2 = ptrTo b2 ∧ ρ 5 = ptrTo b5 ∧ ρ 7 = .slice la l.length lc ∧ ρ 48 = .agg ⟨[ptrTo bt, ptrTo bu]⟩ ∧ ρ 49 = .int .i64 z) (fun z => 2 - z) ?_ 0 _ _ ?_
 · clear S
   intro z ih ρ h ⟨hz, S, r1, r2', r5', r7, r48, r49⟩
   have wz : au .i64 ((z : Int) + 1) = ((z + 1 : Nat) : Int) := by rw [wrap64] <;> omega
   by_cases hzt : z < 2
   · have c2 : (z : Int) < 2 := by omega
     obtain ⟨pt, hpt⟩ : ∃ b, (if z = 0 then ptrTo bt else ptrTo bu) = ptrTo b := by split <;> exact ⟨_, rfl⟩
     have T : ∃ m R Q, TabAt hD m (ptrTo pt) γ.nodes l R Q ∧ (∀ i, i < l.length → (R i).length = γ.nodes) ∧ (∀ i, i < l.length → (Q i).length = γ.nodes) := by
      rw [← hpt]; split
      · exact T1
      · exact T2
     have hix := two_at (p := ptrTo bt) (q := ptrTo bu) hzt
     rw [hpt] at hix
     simp only [ae] at hix
     obtain ⟨m, R, Q, t, lR, lQ⟩ := T
     clear hpt T1 T2
     replace t := t.gr S.gr
     replace R2 := R2.gr S.gr
     replace R5 := R5.gr S.gr
     have l24 := R2.load1 (o := 4) rfl
     have l25 := R2.load1 (o := 5) rfl
     have l50 := R5.load1 (o := 0) rfl
     have nz : (γ.nodes : Int) ≠ 0 := by omega
     simp only [BS, LB, Nat.reduceLT, Nat.reduceEqDiff, r48, r49, c2, hix]
     refine aI (aR rfl) (q := 0) (ps := []) (by kernel_rfl) ?_
     simp only [BS, LB, fQ, bI, fS, cls, Nat.reduceLT, Nat.reduceEqDiff, Nat.reduceAdd, Nat.reducePow, Nat.reduceDiv, Nat.reduceMod, Nat.reduceLeDiff, Tryz.FFba5, r1, r2', r5', l24, l25, l50, lO nz]
     obtain ⟨s, hs⟩ : ∃ s, (au .i64 (au .u8 sI)).tmod (γ.nodes : Int) = s := ⟨_, rfl⟩
     obtain ⟨w, hw⟩ : ∃ w, (au .i64 (au .u8 wI)).tmod (γ.nodes : Int) = w := ⟨_, rfl⟩
     obtain ⟨mo, hmo⟩ : ∃ m, au .i64 most = m := ⟨_, rfl⟩
     rw [hs, hw]
     simp only [hmo]
     refine step_ret (tQ S.ok t lR lQ (by omega)) ?_
     rintro v h ⟨g, sA, nA⟩
     replace S := S.call g
     replace t := t.gr g
     rw [actL_eq] at sA
     obtain ⟨mt, hmt⟩ : ∃ m, min (max mo 1).toNat l.length = m := ⟨_, rfl⟩
     rw [hmt] at sA
     have mle : mt ≤ l.length := by omega
     have pos : 0 < l.length → 0 < mt := by omega
     have fl := rf (key := keyB γ.nodes l.length R Q s w) mle
     have fm := fun x (h : x ∈ _) => rI (key := keyB γ.nodes l.length R Q s w) (n := l.length) (m := mt) (x := x) h
     have fn := ue (key := keyB γ.nodes l.length R Q s w) (n := l.length) (m := mt)
     have fd := fun k (hk : k < mt) (h0 : 0 < k) => actK_down (key := keyB γ.nodes l.length R Q s w) (j := k - 1) (k := k) (by omega) hk mle
     have fr := fun i (hi : i < l.length) hx => qx (key := keyB γ.nodes l.length R Q s w) (m := mt) hi hx (by omega) mle
     have fb := actK_best (key := keyB γ.nodes l.length R Q s w) (m := mt) (n := l.length) (by omega) mle
     have eL : (mt : Int) = min (max 1 mo) (l.length : Int) := by omega
     generalize gK (keyB γ.nodes l.length R Q s w) l.length mt = A at sA fl fm fn fd fr fb
     subst fl
     clear hmt
     have fle : A.length ≤ l.length := mle
     unfold keyB at fd fr fb
     have eU : List.replicate l.length (Value.int .i64 0) = (List.range l.length).map fun v => Value.int .i64 ((uF A 0 v : Nat) : Int) := by
      simp only [uF, List.take_zero, List.not_mem_nil, if_false]
      rw [List.map_const', List.length_range]; rfl
     simp only [BS, LB, fQ, bI, fS, Nat.reduceLT, Nat.reduceEqDiff, Tryz.FFba5, r1, r7, hmo, sA.lenq, eL]
     have gF := S.gr
     have okF := S.ok
     clear S
     have S := St.init (M := NoM) okF
     rename Hp => hF
     refine ao (kz (by first | exact Tryz.u22 | exact Tryz.u25 | exact Tryz.u29 | exact Tryz.u43 | exact Tryz.u59 | exact Tryz.u68 | exact Tryz.u163) (by first | exact Tryz.e2E | exact Tryz.e3E | exact Tryz.e5E | exact Tryz.e25E | exact Tryz.e43E | exact Tryz.e56E | exact Tryz.e60E) (by omega) (by omega)) S ?_; clear S; intro h bs S n_bs
     rw [Int.toNat_natCast, kh, eU] at S
     clear eU
     simp only [BS, LB, Nat.reduceLT, Nat.reduceEqDiff, Int.toNat_natCast]
     refine bE (fun (k : Nat) ρ h' => k ≤ A.length ∧ St NoM hF h' [(bs, .row ((List.range l.length).map fun v => .int .i64 ((uF A k v : Nat) : Int)) 1)] [] ∧ ρ 1 = .int .i8 most ∧ ρ 2 = ptrTo b2 ∧ ρ 5 = ptrTo b5 ∧ ρ 7 = .slice la l.length lc ∧ ρ 10 = ptrTo pt ∧ ρ 11 = .int .i64 s ∧ ρ 12 = .int .i64 w ∧ ρ 13 = v ∧ ρ 14 = .slice (some ⟨bs, 0, none⟩) l.length l.length ∧ ρ 15 = .slice none 0 0 ∧ ρ 16 = .int .i64 k ∧ ρ 48 = .agg ⟨[ptrTo bt, ptrTo bu]⟩ ∧ ρ 49 = .int .i64 z) (fun k => A.length - k) ?_ 0 _ _ ?_
     · clear S r1 r2' r5' r7 r48 r49
       intro k ihk ρ h ⟨hk, S, r1, r2', r5', r7, r10, r11, r12, r13, r14, r15, r16, r48, r49⟩
       have wk : au .i64 ((k : Int) + 1) = ((k + 1 : Nat) : Int) := by rw [wrap64] <;> omega
       by_cases hkt : k < A.length
       · obtain ⟨c, o, i0, y0⟩ := (sA.gr S.gr).ix (kd := .i64) e6 hkt
         obtain ⟨x, hx⟩ : ∃ x, A[k] = x := ⟨_, rfl⟩
         rw [hx] at y0
         replace y0 : h.load c o 1 = some [.int .i64 (x : Nat)] := y0
         have xm : x ∈ A := by rw [← hx]; exact List.getElem_mem hkt
         have xn := fm x xm
         have xt : x ∉ A.take k := by rw [← hx]; exact uB fn hkt
         have xd : A.getD k 0 = x := by rw [List.getD_eq_getElem?_getD, List.getElem?_eq_getElem hkt, hx]; rfl
         have lx := S.ld (b := bs) (o := x) m0 (iQ (F := fun v => Value.int .i64 ((uF A k v : Nat) : Int)) xn)
         have u0 : ((uF A k x : Nat) : Int) = 0 := by unfold uF; rw [if_neg xt]; rfl
         rw [u0] at lx
         have c0 : ¬ (x : Int) < 0 := by omega
         have c1 : ¬ (l.length : Int) ≤ (x : Int) := by omega
         have tF := t.gr S.gr
         by_cases hk0 : 0 < k
         · have ck : (0 : Int) < (k : Int) := by omega
           have wm : au .i64 ((k : Int) - 1) = ((k - 1 : Nat) : Int) := by rw [wrap64] <;> omega
           obtain ⟨d, p, i1, y1⟩ := (sA.gr S.gr).ix (kd := .i64) e6 (i := k - 1) (by omega)
           obtain ⟨y, hy⟩ : ∃ x, A[k - 1] = x := ⟨_, rfl⟩
           rw [hy] at y1
           replace y1 : h.load d p 1 = some [.int .i64 (y : Nat)] := y1
           have yd : A.getD (k - 1) 0 = y := by rw [List.getD_eq_getElem?_getD, List.getElem?_eq_getElem (by omega), hy]; rfl
           have dn := fd k hkt hk0
           rw [xd, yd] at dn
           have cd : ¬ (fZ γ.nodes l.length R Q y s w < fZ γ.nodes l.length R Q x s w) := by omega
           simp only [BS, LB, Nat.reduceLT, Nat.reduceEqDiff, Tryz.FFba5, r13, r16, sA.lenq, aF, hkt]
           refine aI (aR rfl) (q := 0) (ps := [(35, 41)]) (by kernel_rfl) ?_
           simp only [BS, LB, cls, Nat.reduceLT, Nat.reduceEqDiff, Nat.reduceAdd, Nat.reducePow, Nat.reduceDiv, Nat.reduceMod, Nat.reduceLeDiff, Int.reduceLT, Tryz.FFba5, r7, r10, r11, r12, r13, r14, r16, i0, y0, c0, c1, xn, lx, ck]
           have zd := cG S.ok y1
           refine eG (jr S.ok tF lR lQ (by omega)) ?_
           intro h1 g1
           have v1 := aW g1 zd
           replace S := S.call g1
           replace y1 := g1.load y1
           replace lx := g1.load lx
           replace y0 := g1.load y0
           simp only [BS, LB, cls, Nat.reduceLT, Nat.reduceEqDiff, Nat.reduceAdd, Nat.reducePow, Nat.reduceDiv, Nat.reduceMod, Nat.reduceLeDiff, Tryz.FFba5, r10, r11, r12, r13, r16, wm, i1, y1]
           refine eG (jr S.ok (tF.gr g1) lR lQ (by omega)) ?_
           intro h2 g2
           replace S := S.call g2
           replace lx := g2.load lx
           replace y0 := g2.load y0
           simp only [BS, LB, cls, Nat.reduceLT, Nat.reduceEqDiff, Nat.reduceAdd, Nat.reducePow, Nat.reduceDiv, Nat.reduceMod, Nat.reduceLeDiff, Tryz.FFba5, r13, r14, r16, cd]
           refine ⟨by simp only [bL, bR, bC, bU, bF, ne_eq, not_false_eq_true, bW, cB, bJ, bG, cK, dk, bH, Nat.reduceLT, Nat.reduceEqDiff, reduceIte, Bool.and_true, r1, r2', r5', r7, r10, r11, r12, r13, r14, r15, r16, r48, r49, ae, bn v1], ?_⟩
           simp only [BS, LB, Nat.reduceLT, Nat.reduceEqDiff, Int.reduceAdd, Tryz.FFba5, i0, y0, xn, lx]
           have o1 : ((1 : Nat) : Int) = 1 := rfl
           refine ac (ab S (i := 0) rfl Tryz.s3 aM (by simpa using xn) ono) ?_
           clear S lx; rintro h4 ⟨S, mo4⟩
           simp only [List.set_cons_zero] at S
           simp only [BS, LB, Nat.reduceLT, Nat.reduceEqDiff, r16, wk]
           refine ihk (k + 1) _ _ (by omega) ⟨by omega, ?_, by simp [aa, r1], by simp [aa, r2', ae], by simp [aa, r5', ae], by simp [aa, r7], by simp [aa, r10, ae], by simp [aa, r11], by simp [aa, r12], by simp [aa, r13], by simp [aa, r14], by simp [aa, r15], by simp [aa], by simp [aa, r48, ae], by simp [aa, r49]⟩
           have e := iJ (N := l.length) (k := x) (F := fun v => Value.int .i64 ((uF A k v : Nat) : Int)) (F' := fun v => Value.int .i64 ((uF A (k + 1) v : Nat) : Int)) (fun u _ hu => by rw [uF_step hkt (by rw [hx]; exact hu)])
           rw [← e, uF_new hkt hx]
           exact S
         · have ck : ¬ (0 : Int) < (k : Int) := by omega
           simp only [BS, LB, Nat.reduceLT, Nat.reduceEqDiff, Tryz.FFba5, r13, r16, sA.lenq, aF, hkt]
           refine aI (aR rfl) (q := 0) (ps := [(35, 41)]) (by kernel_rfl) ?_
           simp only [BS, LB, cls, Nat.reduceLT, Nat.reduceEqDiff, Nat.reduceAdd, Nat.reducePow, Nat.reduceDiv, Nat.reduceMod, Nat.reduceLeDiff, Int.reduceLT, Int.reduceAdd, Tryz.FFba5, r7, r13, r14, r16, i0, y0, c0, c1, xn, lx, ck]
           refine ⟨by simp only [bL, bR, bC, bU, bF, ne_eq, not_false_eq_true, bW, cB, bJ, bG, cK, dk, bH, Nat.reduceLT, Nat.reduceEqDiff, reduceIte, Bool.and_true, r1, r2', r5', r7, r10, r11, r12, r13, r14, r15, r16, r48, r49, ae, kP, qG], ?_⟩
           have o1 : ((1 : Nat) : Int) = 1 := rfl
           refine ac (ab S (i := 0) rfl Tryz.s3 aM (by simpa using xn) ono) ?_
           clear S lx; rintro h4 ⟨S, mo4⟩
           simp only [List.set_cons_zero] at S
           simp only [BS, LB, Nat.reduceLT, Nat.reduceEqDiff, r16, wk]
           refine ihk (k + 1) _ _ (by omega) ⟨by omega, ?_, by simp [aa, r1], by simp [aa, r2', ae], by simp [aa, r5', ae], by simp [aa, r7], by simp [aa, r10, ae], by simp [aa, r11], by simp [aa, r12], by simp [aa, r13], by simp [aa, r14], by simp [aa, r15], by simp [aa], by simp [aa, r48, ae], by simp [aa, r49]⟩
           have e := iJ (N := l.length) (k := x) (F := fun v => Value.int .i64 ((uF A k v : Nat) : Int)) (F' := fun v => Value.int .i64 ((uF A (k + 1) v : Nat) : Int)) (fun u _ hu => by rw [uF_step hkt (by rw [hx]; exact hu)])
           rw [← e, uF_new hkt hx]
           exact S
       · have ek : k = A.length := by omega
         subst ek
         simp only [BS, LB, ag, Nat.reduceLT, Nat.reduceEqDiff, Tryz.FFba5, r13, r16, r49, sA.lenq, aF, hkt]
         replace S := S.nilG (k := 1)
         clear wk hkt hk ihk
         refine bE (fun (i : Nat) ρ h' => i ≤ l.length ∧ ∃ vR, St NoM hF h' [(bs, .row ((List.range l.length).map fun v => .int .i64 ((uF A A.length v : Nat) : Int)) 1)] [(vR, 1, dP (List.range i))] ∧ ρ 1 = .int .i8 most ∧ ρ 2 = ptrTo b2 ∧ ρ 5 = ptrTo b5 ∧ ρ 7 = .slice la l.length lc ∧ ρ 10 = ptrTo pt ∧ ρ 11 = .int .i64 s ∧ ρ 12 = .int .i64 w ∧ ρ 13 = v ∧ ρ 14 = .slice (some ⟨bs, 0, none⟩) l.length l.length ∧ ρ 15 = vR ∧ ρ 17 = .int .i64 i ∧ ρ 48 = .agg ⟨[ptrTo bt, ptrTo bu]⟩ ∧ ρ 49 = .int .i64 z) (fun i => l.length - i) ?_ 0 _ _ ?_
         · clear S r1 r2' r5' r7 r10 r11 r12 r13 r14 r15 r16 r48 r49
           intro i ihi ρ h ⟨hi, vR, S, r1, r2', r5', r7, r10, r11, r12, r13, r14, r15, r17, r48, r49⟩
           have wi : au .i64 ((i : Int) + 1) = ((i + 1 : Nat) : Int) := by rw [wrap64] <;> omega
           have fvR : Fl vR := by
            rcases (S.gown _ m0).1 with ⟨e, _⟩ | ⟨_, _, e, _⟩
            · rw [show vR = _ from e]; exact aw
            · rw [show vR = _ from e]; exact aw
           by_cases hit : i < l.length
           · have ap := pos (by omega)
             simp only [BS, LB, Nat.reduceLT, Nat.reduceEqDiff, Tryz.FFba5, r7, r15, r17, aF, hit]
             refine ao (bT (by first | exact Tryz.u22 | exact Tryz.u25 | exact Tryz.u29 | exact Tryz.u43 | exact Tryz.u59 | exact Tryz.u68 | exact Tryz.u163) (by first | exact Tryz.e2E | exact Tryz.e3E | exact Tryz.e5E | exact Tryz.e25E | exact Tryz.e43E | exact Tryz.e56E | exact Tryz.e60E) (by decide) (by first | rfl | exact fillE )) S ?_; clear S; intro h bq S n_bq; simp only [aY, bD, an, List.cons_append, List.nil_append, List.append_nil, List.set_cons_zero, List.set_cons_succ, Nat.reduceMul, Nat.reduceAdd, Nat.zero_mul, Nat.zero_add, Nat.mul_one, Nat.one_mul] at S
             simp only [BS, LB, Nat.reduceLT, Nat.reduceEqDiff]
             have src : aH h 1 (.slice (some ⟨bq, 0, none⟩) 1 1) = some (1, [.int .i64 (i : Nat)]) := by simp only [aH]; rw [S.lds (b := bq) (o := 0) (n := 1 * 1) m0 (lbt rfl)]; rfl
             replace S := S.drop1
             refine dt (S.grow (j := 0) (m := 1) (new := [.int .i64 (i : Nat)]) rfl Tryz.u43 Tryz.e3E (by decide) Tryz.n43 src rfl (by decide) rfl (by rw [kp]; simp; omega)) ?_
             clear S src; rintro h vR' S
             simp only [List.set_cons_zero] at S
             have e : dP (List.range i) ++ [.int .i64 (i : Nat)] = dP (List.range (i + 1)) := by unfold dP; rw [List.range_succ, List.map_append]; rfl
             rw [e] at S
             have fvR' : Fl vR' := by
              rcases (S.gown _ m0).1 with ⟨e, _⟩ | ⟨_, _, e, _⟩
              · rw [show vR' = _ from e]; exact aw
              · rw [show vR' = _ from e]; exact aw
             have lx := S.ld (b := bs) (o := i) m0 (iQ (F := fun v => Value.int .i64 ((uF A A.length v : Nat) : Int)) hit)
             simp only [BS, LB, Nat.reduceLT, Nat.reduceEqDiff]
             by_cases hm : i ∈ A
             · have u1 : ((uF A A.length i : Nat) : Int) = 1 := by unfold uF; rw [List.take_length, if_pos hm]; rfl
               rw [u1] at lx
               refine aI (aR rfl) (q := 0) (ps := [(10, 17), (10, 14)]) (by kernel_rfl) ?_
               have n10 : ¬ (1 : Int) = 0 := by decide
               simp only [BS, LB, cls, Nat.reduceLT, Nat.reduceEqDiff, Nat.reduceAdd, Nat.reducePow, Nat.reduceDiv, Nat.reduceMod, Nat.reduceLeDiff, Tryz.FFba5, r14, r17, hit, lx, n10]
               refine ⟨by simp only [bL, bR, bC, bU, bF, ne_eq, not_false_eq_true, bW, cB, bJ, bG, cK, dk, bH, Nat.reduceLT, Nat.reduceEqDiff, reduceIte, Bool.and_true, r1, r2', r5', r7, r10, r11, r12, r13, r14, r15, r17, r48, r49, ae, kP, qG], ?_⟩
               simp only [wi]
               exact ihi (i + 1) _ _ (by omega) ⟨by omega, vR', S, by simp [aa, r1], by simp [aa, r2', ae], by simp [aa, r5', ae], by simp [aa, r7], by simp [aa, r10, ae], by simp [aa, r11], by simp [aa, r12], by simp [aa, r13], by simp [aa, r14], by simp [aa], by simp [aa], by simp [aa, r48, ae], by simp [aa, r49]⟩
             · have u1 : ((uF A A.length i : Nat) : Int) = 0 := by unfold uF; rw [List.take_length, if_neg hm]; rfl
               rw [u1] at lx
               have wm : au .i64 ((A.length : Int) - 1) = ((A.length - 1 : Nat) : Int) := by rw [wrap64] <;> omega
               obtain ⟨d, p, i1, y1⟩ := (sA.gr S.gr).ix (kd := .i64) e6 (i := A.length - 1) (by omega)
               obtain ⟨y, hy⟩ : ∃ x, A[A.length - 1] = x := ⟨_, rfl⟩
               rw [hy] at y1
               replace y1 : h.load d p 1 = some [.int .i64 (y : Nat)] := y1
               have yd : A.getD (A.length - 1) 0 = y := by rw [List.getD_eq_getElem?_getD, List.getElem?_eq_getElem (by omega), hy]; rfl
               have dn := fr i hit hm
               rw [yd] at dn
               have cd : ¬ (fZ γ.nodes l.length R Q y s w < fZ γ.nodes l.length R Q i s w) := by omega
               have tF := t.gr S.gr
               have zd := cG S.ok y1
               obtain ⟨vb, vo, vsp, vc', ev⟩ : ∃ b o sp c, v = .slice (some ⟨b, o, sp⟩) A.length c := by
                rcases sA with ⟨_, e⟩ | ⟨b, o, sp, c, e, _⟩
                · subst e; simp at ap
                · exact ⟨b, o, sp, c, e⟩
               have zv : vb < h.n := (sA.gr S.gr).lt S.ok (by rw [ev]; exact rfl)
               refine aI (aR rfl) (q := 0) (ps := [(10, 17), (10, 14)]) (by kernel_rfl) ?_
               simp only [BS, LB, cls, Nat.reduceLT, Nat.reduceEqDiff, Nat.reduceAdd, Nat.reducePow, Nat.reduceDiv, Nat.reduceMod, Nat.reduceLeDiff, Tryz.FFba5, r10, r11, r12, r14, r17, hit, lx]
               refine eG (jr S.ok tF lR lQ (by omega)) ?_
               intro h1 g1
               have v1 := aW g1 zd
               have v2 := aW g1 zv
               replace S := S.call g1
               replace y1 := g1.load y1
               simp only [BS, LB, cls, Nat.reduceLT, Nat.reduceEqDiff, Nat.reduceAdd, Nat.reducePow, Nat.reduceDiv, Nat.reduceMod, Nat.reduceLeDiff, Tryz.FFba5, r10, r11, r12, r13, sA.lenq, wm, i1, y1]
               refine eG (jr S.ok (tF.gr g1) lR lQ (by omega)) ?_
               intro h2 g2
               replace S := S.call g2
               simp only [BS, LB, cls, Nat.reduceLT, Nat.reduceEqDiff, Nat.reduceAdd, Nat.reducePow, Nat.reduceDiv, Nat.reduceMod, Nat.reduceLeDiff, r17, cd]
               refine ⟨by simp only [bL, bR, bC, bU, bF, ne_eq, not_false_eq_true, bW, cB, bJ, bG, cK, dk, bH, Nat.reduceLT, Nat.reduceEqDiff, reduceIte, Bool.and_true, r1, r2', r5', r7, r10, r11, r12, r13, r14, r15, r17, r48, r49, ae, lI, ev, bn v1, bn v2], ?_⟩
               simp only [wi]
               exact ihi (i + 1) _ _ (by omega) ⟨by omega, vR', S, by simp [aa, r1], by simp [aa, r2', ae], by simp [aa, r5', ae], by simp [aa, r7], by simp [aa, r10, ae], by simp [aa, r11], by simp [aa, r12], by simp [aa, r13], by simp [aa, r14], by simp [aa], by simp [aa], by simp [aa, r48, ae], by simp [aa, r49]⟩
           · have ei : i = l.length := by omega
             subst ei
             have sR : aB h 1 eC vR (List.range l.length) := (S.gown _ m0).1.sl (nS _).symm e6 (by decide)
             have eb : lZ γ.nodes l.length R Q s w (A.map fun (x : Nat) => (x : Int)) = lZ γ.nodes l.length R Q s w ((List.range l.length).map fun (x : Nat) => (x : Int)) := by unfold lZ; rw [List.foldl_map, List.foldl_map]; exact fb
             simp only [BS, LB, ag, Nat.reduceLT, Nat.reduceEqDiff, Tryz.FFba5, r7, r10, r11, r12, r13, r17, r49, aF, hit]
             refine ar (rP S.ok (t.gr S.gr) lR lQ (by omega) (sl_nat (sA.gr S.gr)) (by rw [List.length_map]; omega)) ?_
             intro h1 g1
             replace S := S.call g1
             simp only [BS, LB, Nat.reduceLT, Nat.reduceEqDiff, r10, r11, r12, r15]
             refine ar (rP S.ok (t.gr S.gr) lR lQ (by omega) (sl_nat (sR.gr g1)) (by rw [List.length_map, List.length_range]; omega)) ?_
             intro h2 g2
             replace S := S.call g2
             simp only [BS, LB, Nat.reduceLT, Nat.reduceEqDiff, r49, eb, wz]
             exact ih (z + 1) _ _ (by omega) ⟨by omega, (St.init (M := NoM) okD).call (gF.trans S.gr), by simp [aa, r1], by simp [aa, r2', ae], by simp [aa, r5', ae], by simp [aa, r7], by simp [aa, r48, ae], by simp [aa]⟩
         · exact ⟨Nat.zero_le _, _, S, by simp [aa, r1], by simp [aa, r2', ae], by simp [aa, r5', ae], by simp [aa, r7], by simp [aa, r10, ae], by simp [aa, r11], by simp [aa, r12], by simp [aa, r13], by simp [aa, r14], by simp [aa, r15], by simp [aa], by simp [aa, r48, ae], by simp [aa, r49]⟩
     · exact ⟨Nat.zero_le _, S, by simp [aa, r1], by simp [aa, r2', ae], by simp [aa, r5', ae], by simp [aa, r7], by simp [aa, ae], by simp [aa], by simp [aa], by simp [aa], by simp [aa], by simp [aa], by simp [aa], by simp [aa, r48, ae], by simp [aa, r49]⟩
   · have c2 : ¬ (z : Int) < 2 := by omega
     simp only [BS, LB, ag, Nat.reduceLT, Nat.reduceEqDiff, r49, c2]
     exact g1.trans S.gr
 · exact ⟨Nat.zero_le _, S, by simp [aa, cV], by simp [aa, ae], by simp [aa, ae], by simp [aa], by simp [aa, ae], by simp [aa]⟩
end Go.Ab

end
section
namespace Go.Ab
open Go.ChangeShapes Go.WideShapes Go.RowKit
theorem rowAt_le {P : Program} {fits : TypeId → Bool} {d : Nat} {e : TypeId} {count off n : Nat} (h : rowAt P fits d e count off n = true) : off ≤ count * P.cellsOf e := by
 cases d with
 | zero => cases h
 | succ d =>
   unfold rowAt at h
   simp only [] at h
   split at h
   · cases h
   · rename_i hs
     have hpos : 0 < P.cellsOf e := by omega
     have hdm := Nat.div_add_mod off (P.cellsOf e)
     simp only [Bool.or_eq_true, Bool.and_eq_true, beq_iff_eq, decide_eq_true_eq] at h
     rcases h with ⟨⟨h1, h2⟩, _⟩ | ⟨h1, _⟩
     · have : P.cellsOf e * (off / P.cellsOf e) ≤ P.cellsOf e * count := Nat.mul_le_mul_left _ (by omega)
       rw [Nat.mul_comm count]; omega
     · have : P.cellsOf e * (off / P.cellsOf e + 1) ≤ P.cellsOf e * count := Nat.mul_le_mul_left _ (by omega)
       have hlt := Nat.mod_lt off hpos
       rw [Nat.mul_add, Nat.mul_one] at this
       rw [Nat.mul_comm count]; omega
theorem liesAt_le {P : Program} {d : Nat} : ∀ {e : TypeId} {count off : Nat} {u : TypeId} {n : Nat}, liesAt P d e count off u n = true → off ≤ count * P.cellsOf e := by
 induction d with
 | zero => intro e count off u n h; cases h
 | succ d ih =>
   intro e count off u n h
   unfold liesAt at h
   rw [Bool.or_eq_true] at h
   rcases h with h | h
   · exact rowAt_le h
   · split at h
     · exact ih h
     · cases h
theorem has_W {P : Program} {W : World} {r : _root_.Go.Reach} {base : Nat} {a : Addr} {e : TypeId} {n : Nat} (h : W.has P r base a e n) : a.spot = none ∧ a.block < W.heap.size ∧ ∃ l, (hpW W).load (a.block + 16) a.off 0 = some l := by
 obtain ⟨_, hsp, row, cells, hsh, hl⟩ := h
 have hle := liesAt_le hl
 have hle2 : a.off ≤ cells := Nat.le_trans hle (Nat.div_mul_le_self _ _)
 unfold World.shape? at hsh
 split at hsh
 next cs el fz ho =>
  cases hsh
  have hlt := (Array.getElem?_eq_some_iff.1 ho).1
  have hr : Row (hpW W) (a.block + 16) (cs.toList.map (fH W.heap.size)) 0 := ⟨_, _, by rw [mR, ho]; rfl, Tr.sized_ofList _, fun j => Tr.get_ofList _ j⟩
  exact ⟨hsp, hlt, _, hr.load (o := a.off) (n := 0) (by simpa using hle2)⟩
 · cases hsh
section
variable {H : Type} {enc : TypeId × Value → H} {P : Program}
theorem jm {W : World} {base fuel : Nat} {s e : TypeId} {k : IntKind} {c : Value} {sp : Nat → Bool} {hd : Bool} {x : DataW H × List MemPlace} (hs : P.underlying s = some (.slice e)) (he : P.underlying e = some (.int k)) (hc : P.cellsOf e = 1)
 (hok : Cell.okWide P W .any base s c) (h : DataW.trod enc P W 0 sp hd fuel s [c] = some x) : ∃ zs : List Int, SlW (hpW W) k (fH W.heap.size c) zs ∧ (∀ z ∈ zs, (Lit.int k z).wf = true) ∧ zs.length ≤ 9223372036854775807 := by
 rcases Go.ChangeShapes.open_ints hs he hc h with ⟨e1, _⟩ | ⟨a, len, cap, zs, e1, hb, hl, hm, hz, _, hcell, hwf⟩
 · cases e1
   exact ⟨[], .inl ⟨rfl, rfl⟩, fun z hz => (by cases hz), by simp⟩
 · cases e1
   unfold Cell.okWide at hok
   rw [hs] at hok
   simp only [Cell.ok, hs] at hok
   obtain ⟨hle1, hmax, hhas⟩ := hok
   obtain ⟨hsp, hlt, h0⟩ := has_W hhas
   have hlz : len ≤ zs.length := by rw [hz]; split <;> omega
   refine ⟨zs.take len, .inr ⟨a.block + 16, a.off, cap, ?_, ?_, ?_⟩, fun z hz => hwf z (List.mem_of_mem_take hz), by
    have : (cap : Int) ≤ 9223372036854775807 := hmax
    rw [List.length_take]; omega⟩
   · rw [List.length_take, Nat.min_eq_left hlz]
     simp only [fH, if_pos hl, if_pos (And.intro hsp hlt)]
   · rw [List.length_take, Nat.min_eq_left hlz]; exact hl
   · rw [List.length_take, Nat.min_eq_left hlz, Nat.mul_one]
     rw [load_join (f := fun i => .int k (zs.getD i 0)) h0 (fun i hi => load_W hsp (hcell i (by omega)))]
     congr 1
     have e4 : ∀ l : List Int, l.flatMap (encI k) = l.map fun x => .int k x := fun l => by
      rw [List.flatMap_eq_foldl, List.map_eq_flatMap, List.flatMap_eq_foldl]; rfl
     rw [e4]
     refine List.ext_getElem? fun i => ?_
     rw [List.getElem?_map, List.getElem?_map, List.getElem?_take]
     by_cases hi : i < len
     · rw [if_pos hi, List.getElem?_range hi, List.getElem?_eq_getElem (show i < zs.length by omega)]
       simp [List.getD_eq_getElem?_getD, show i < zs.length by omega]
     · rw [if_neg hi, List.getElem?_eq_none (by simpa using hi)]; rfl
theorem open_slV {W : World} {base : Nat} {s e : TypeId} {k : IntKind} {v : Value} {sp : Nat → Bool} {hd : Bool} {d : DataW H} {p : List MemPlace} (hs : P.underlying s = some (.slice e)) (he : P.underlying e = some (.int k)) (hc : P.cellsOf e = 1)
 (hval : Value.okWide P W .any base s v) (h : DataW.Trod enc P W 0 sp hd s v d p) : ∃ zs : List Int, SlW (hpW W) k (absA W.heap.size v) zs ∧ (∀ z ∈ zs, (Lit.int k z).wf = true) ∧ zs.length ≤ 9223372036854775807 := by
 unfold Value.okWide at hval
 rw [hs] at hval
 obtain ⟨fuel, h⟩ := h
 have hc0 : ∀ l : Array Value, v ≠ .agg l := by
  rintro l rfl
  simp only [Cell.okWide, hs, Cell.ok] at hval
 have hcs : v.cells.toList = [v] := by cases v <;> first | rfl | exact absurd rfl (hc0 _)
 rw [hcs] at h
 have ha : absA W.heap.size v = fH W.heap.size v := by cases v <;> first | rfl | exact absurd rfl (hc0 _)
 rw [ha]
 exact jm hs he hc hval h
theorem open_sl2 {W : World} {base : Nat} {t s e : TypeId} {k : IntKind} {f0 f1 : Field} {v : Value} {sp : Nat → Bool} {hd : Bool} {d : DataW H} {p : List MemPlace} (ht : P.underlying t = some (.struct #[f0, f1])) (o0 : f0.offset = 0) (o1 : f1.offset = 1) (t0 : f0.type = s) (t1 : f1.type = s)
 (hs : P.underlying s = some (.slice e)) (he : P.underlying e = some (.int k)) (hc : P.cellsOf e = 1) (hcs : P.cellsOf s = 1) (hct : P.cellsOf t = 2) (hts : P.cellTypes P.depth t = some [s, s])
 (hval : Value.okWide P W .any base t v) (h : DataW.Trod enc P W 0 sp hd t v d p) :
 ∃ (c0 c1 : Value) (xs ys : List Int), v = .agg #[c0, c1] ∧ SlW (hpW W) k (fH W.heap.size c0) xs ∧ SlW (hpW W) k (fH W.heap.size c1) ys ∧ (∀ z ∈ xs, (Lit.int k z).wf = true) ∧ ∀ z ∈ ys, (Lit.int k z).wf = true := by
 unfold Value.okWide at hval
 rw [ht] at hval
 obtain ⟨cs, rfl, hsz, ts, e1, _, hrow⟩ := hval
 rw [hts] at e1
 cases e1
 rw [hct] at hsz
 obtain ⟨l⟩ := cs
 simp only [List.size_toArray] at hsz
 obtain ⟨c0, c1, rfl⟩ := len2 hsz
 obtain ⟨fuel, h⟩ := h
 obtain ⟨y0, y1, n, _, _, h1, h2⟩ := Go.ChangeShapes.trod_struct2 ht h
 rw [o0, t0, hcs] at h1
 rw [o1, t1, hcs] at h2
 obtain ⟨u0, e0, k0⟩ := hrow 0 c0 rfl
 obtain ⟨u1, e1, k1⟩ := hrow 1 c1 rfl
 cases e0
 cases e1
 obtain ⟨xs, hx, wx, _⟩ := jm hs he hc k0 h1
 obtain ⟨ys, hy, wy, _⟩ := jm hs he hc k1 h2
 exact ⟨c0, c1, xs, ys, rfl, hx, hy, wx, wy⟩
end
end Go.Ab

end
section
namespace Go.Ab
open Go.ChangeShapes Go.WideShapes Go.RowKit
section
variable {H : Type} {enc : TypeId × Value → H} {P : Program}
theorem len6 {α : Type} {l : List α} (h : l.length = 6) : ∃ a b c d e f, l = [a, b, c, d, e, f] := by
 match l, h with
 | [a, b, c, d, e, f], _ => exact ⟨a, b, c, d, e, f, rfl⟩
theorem open_d18 {W : World} {base : Nat} {t s0 s2 s3 e0 e2 e3 i4 : TypeId} {f0 f1 f2 f3 f4 f5 : Field} {v : Value} {sp : Nat → Bool} {hd : Bool} {d : DataW H} {p : List MemPlace} (ht : P.underlying t = some (.struct #[f0, f1, f2, f3, f4, f5])) (o0 : f0.offset = 0) (o1 : f1.offset = 1) (o2 : f2.offset = 2) (o3 : f3.offset = 3) (o4 : f4.offset = 4) (o5 : f5.offset = 5)
 (t0 : f0.type = s0) (t1 : f1.type = s0) (t2 : f2.type = s2) (t3 : f3.type = s3) (t4 : f4.type = i4) (t5 : f5.type = i4) (h0 : P.underlying s0 = some (.slice e0)) (h2 : P.underlying s2 = some (.slice e2)) (h3 : P.underlying s3 = some (.slice e3)) (h4 : P.underlying i4 = some (.int .i8))
 (g0 : P.underlying e0 = some (.int .u8)) (g2 : P.underlying e2 = some (.int .i8)) (g3 : P.underlying e3 = some (.int .i64)) (c0 : P.cellsOf e0 = 1) (c2 : P.cellsOf e2 = 1) (c3 : P.cellsOf e3 = 1) (d0 : P.cellsOf s0 = 1) (d2 : P.cellsOf s2 = 1) (d3 : P.cellsOf s3 = 1) (d4 : P.cellsOf i4 = 1) (hct : P.cellsOf t = 6) (hts : P.cellTypes P.depth t = some [s0, s0, s2, s3, i4, i4])
 (hval : Value.okWide P W .any base t v) (h : DataW.Trod enc P W 0 sp hd t v d p) :
 ∃ (a b c e : Value) (x y : Int) (B M A N : List Int), v = .agg #[a, b, c, e, .int .i8 x, .int .i8 y] ∧ SlW (hpW W) .u8 (fH W.heap.size a) B ∧ SlW (hpW W) .u8 (fH W.heap.size b) M ∧ SlW (hpW W) .i8 (fH W.heap.size c) A ∧ SlW (hpW W) .i64 (fH W.heap.size e) N ∧
   (∀ z ∈ B, (Lit.int .u8 z).wf = true) ∧ (∀ z ∈ M, (Lit.int .u8 z).wf = true) ∧ (∀ z ∈ A, (Lit.int .i8 z).wf = true) ∧ (∀ z ∈ N, (Lit.int .i64 z).wf = true) ∧ (Lit.int .i8 x).wf = true ∧ (Lit.int .i8 y).wf = true ∧ M.length ≤ 9223372036854775807 ∧ N.length ≤ 9223372036854775807 := by
 unfold Value.okWide at hval
 rw [ht] at hval
 obtain ⟨cs, rfl, hsz, ts, e1, _, hrow⟩ := hval
 rw [hts] at e1
 cases e1
 rw [hct] at hsz
 obtain ⟨l⟩ := cs
 simp only [List.size_toArray] at hsz
 obtain ⟨a, b, c, e, x, y, rfl⟩ := len6 hsz
 obtain ⟨fuel, h⟩ := h
 obtain ⟨xs, n, _, _, hl, hlen, hf⟩ := DataW.trod_struct ht h
 obtain ⟨y0, y1, y2, y3, y4, y5, rfl⟩ := len6 (by rw [hlen]; rfl : xs.length = 6)
 have q0 := hf 0 f0 rfl
 have q1 := hf 1 f1 rfl
 have q2 := hf 2 f2 rfl
 have q3 := hf 3 f3 rfl
 have q4 := hf 4 f4 rfl
 have q5 := hf 5 f5 rfl
 rw [o0, t0, d0] at q0
 rw [o1, t1, d0] at q1
 rw [o2, t2, d2] at q2
 rw [o3, t3, d3] at q3
 rw [o4, t4, d4] at q4
 rw [o5, t5, d4] at q5
 have r : ∀ (j : Nat) t v, [s0, s0, s2, s3, i4, i4][j % 6]? = some t → [a, b, c, e, x, y][j]? = some v → Cell.okWide P W .any base t v := fun j t v h1 h2 => by
  obtain ⟨u, h3, h4⟩ := hrow j v (by simpa using h2)
  obtain rfl : t = u := Option.some.inj (h1.symm.trans h3)
  exact h4
 obtain ⟨B, hB, wB, _⟩ := jm h0 g0 c0 (r 0 s0 a rfl rfl) q0
 obtain ⟨M, hM, wM, lM⟩ := jm h0 g0 c0 (r 1 s0 b rfl rfl) q1
 obtain ⟨A, hA, wA, _⟩ := jm h2 g2 c2 (r 2 s2 c rfl rfl) q2
 obtain ⟨N, hN, wN, lN⟩ := jm h3 g3 c3 (r 3 s3 e rfl rfl) q3
 obtain ⟨u, e4, _, wu⟩ := DataW.trod_int h4 q4
 obtain ⟨v, e5, _, wv⟩ := DataW.trod_int h4 q5
 cases e4
 cases e5
 exact ⟨a, b, c, e, u, v, B, M, A, N, rfl, hB, hM, hA, hN, wB, wM, wA, wN, wu, wv, lM, lN⟩
end
end Go.Ab

end
