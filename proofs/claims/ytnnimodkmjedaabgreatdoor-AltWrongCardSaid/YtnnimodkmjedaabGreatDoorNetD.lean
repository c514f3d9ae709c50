/- Nets, cells, flags: what the functions do (part 4). -/
import Derived.Test.YtnnimodkmjedaabGreatDoorNetC
import Derived.ChangeSlices
import Derived.ChangeArms
import Derived.ChangeSame
import Derived.OpenShut
open Go.Ab.Tryz renaming abEnv -> xa, s46 -> xy, u40 -> xB, e3E -> xF, e50 -> xO, a46 -> xS, s30 -> xT
open List renaming getD_eq_getElem?_getD -> xb, length_take -> xe, getElem?_eq_getElem -> xf, take -> xi, drop -> xj, range -> xm, flatMap_eq_foldl -> xn, all_cons -> xo, all_nil -> xr, take_succ_eq_append_getElem -> xt, getElem?_map -> xz, drop_zero -> xC, map_eq_flatMap -> xI, take_succ_cons -> xJ, size_toArray -> xK, getElem_mem -> xL, mem_append_right -> xM, take_zero -> xN, map_cons -> xP, getElem?_range -> xQ, map_nil -> xR
open Nat renaming lt_of_lt_of_le -> xc, le_trans -> xh, zero_le -> xk, mul_one -> xl, le_refl -> xp, zero_mul -> xq, zero_add -> xu, min_eq_left -> xw, one_mul -> xx, lt_of_succ_le -> xD
open Bool renaming and_true -> xd
open Int renaming cast_ofNat_Int -> xg, eq_ofNat_of_zero_le -> xv
open Option renaming map_some -> xG, map_none -> xH
set_option maxHeartbeats 4000000
set_option linter.defProp false
set_option linter.unusedVariables false
set_option linter.unusedSimpArgs false
section
namespace Go.Ab
open Go.Proofs
set_option maxRecDepth 10000
open Tryz in
def Tryz.FFtb183 := aj a1 <| aj s1 <| aj z1 <| aj n1 <| aj u2 <| aj a2 <| aj s2 <| aj z2 <| aj i2 <| aj u3 <| aj a3 <| aj s3 <| aj z3 <| aj i3 <| aj u4 <| aj a4 <| aj s4 <| aj z4 <| aj n4 <| aj u153 <| aj a153 <| aj s153 <| aj z153 <| n153
open Tryz in
def Tryz.FFtb1127 := aj a1 <| aj s1 <| aj z1 <| aj n1 <| aj u2 <| aj a2 <| aj s2 <| aj z2 <| aj i2 <| aj u3 <| aj a3 <| aj s3 <| aj z3 <| aj i3 <| aj u4 <| aj a4 <| aj s4 <| aj z4 <| aj n4 <| aj u5 <| aj a5 <| aj s5 <| aj z5 <| aj i5 <| aj u6 <| aj a6 <| aj s6 <| aj z6 <| aj i6 <| aj a7 <| aj s7 <| aj z7 <| aj i7 <| aj n7 <| aj p7 <| aj ff7 <| aj d7 <| aj u40 <| aj a40 <| aj s40 <| aj z40 <| aj q40 <| aj n40 <| aj a154 <| aj s154 <| aj z154 <| n154
open Tryz in
def Tryz.FFtb136 := aj a1 <| aj s1 <| aj z1 <| aj n1 <| aj u2 <| aj a2 <| aj s2 <| aj z2 <| aj i2 <| aj u3 <| aj a3 <| aj s3 <| aj z3 <| aj i3 <| aj u4 <| aj a4 <| aj s4 <| aj z4 <| aj n4 <| aj u40 <| aj a40 <| aj s40 <| aj z40 <| aj q40 <| aj n40 <| aj u153 <| aj a153 <| aj s153 <| aj z153 <| aj n153 <| aj a154 <| aj s154 <| aj z154 <| n154
theorem may1_ok {h0 : Hp} (ok : h0.t.Sized h0.n) {b5 b2 bm c N k : Nat} {x : Int} {es : List (Value × Value × Nat)} {f : Int -> Option Value} (e5 : h0.load b5 0 1 = some [.map (some bm)]) (e2 : h0.load b2 0 1 = some [.int .i64 N]) (hm : h0.get bm = some (.map es c)) (MI : cN es c f) (hf : (f x).getD (.int .i64 0) = .int .i64 k) (hk : k <= 1) (n5 : b5 ≠ bm) (n2 : b2 ≠ bm) :
 Ret xa 83 [.int .i64 x, ptrTo b5, ptrTo b2] h0 fun r h' => Mo (· = bm) h0 h' /\ r = .bool (decide (x < 0 \/ (N : Int) <= x \/ k = 1)) /\ ∃ es' c', h'.get bm = some (.map es' c') /\ cN es' c' (cV f x (some (.int .i64 (k + 1 : Nat)))) := by
 have S := St.init1 ok (o := .map es c) hm
 have lk := oD (x := x) Tryz.u153 Tryz.u3 (z := .int .i64 0) (by kernel_rfl) hm MI
 rw [hf] at lk
 have w : ar .i64 ((k : Int) + 1) = ((k + 1 : Nat) : Int) := by rw [wrap64] <;> omega
 refine ae (n := 22) (rs := [.tmp 4]) rfl Tryz.e83 rfl rfl rfl (lbt rfl) ?_
 simp only [BS, LB, Nat.reduceLT, Nat.reduceEqDiff, Tryz.FFtb183, e5, lk, w]
 refine aB (S.mputI (i := 0) rfl Tryz.u153 Tryz.u3 MI _) ?_
 clear S; rintro h ⟨_, es', c', MI', S⟩
 simp only [LC] at S
 have e5' := S.old e5 n5
 have e2' := S.old e2 n2
 have hg : h.get bm = some (.map es' c') := (S.own _ m0).2
 have lk2 := oD (x := x) Tryz.u153 Tryz.u3 (z := .int .i64 0) (by kernel_rfl) hg MI'
 rw [show cV f x (some (.int .i64 ((k + 1 : Nat) : Int))) x = some (.int .i64 ((k + 1 : Nat) : Int)) by unfold cV; rw [if_pos rfl], Option.getD_some] at lk2
 by_cases c1 : x < 0
 . simp only [BS, LB, ac, Nat.reduceLT, Nat.reduceEqDiff, c1]
   exact ⟨S.fr, by simp [c1], es', c', hg, MI'⟩
 . by_cases c2 : (N : Int) <= x
   . simp only [BS, LB, ac, Nat.reduceLT, Nat.reduceEqDiff, Tryz.FFtb183, e2', c1, c2]
     exact ⟨S.fr, by simp [c2], es', c', hg, MI'⟩
   . by_cases c3 : k = 1
     . subst c3
       simp only [BS, LB, ac, Nat.reduceLT, Nat.reduceEqDiff, Nat.reduceAdd, Int.reduceLT, xg, Tryz.FFtb183, e5', e2', c1, c2, lk2]
       exact ⟨S.fr, by simp, es', c', hg, MI'⟩
     . have k0 : k = 0 := by omega
       subst k0
       simp only [BS, LB, ac, Nat.reduceLT, Nat.reduceEqDiff, Int.reduceLT, xg, Tryz.FFtb183, e5', e2', c1, c2, lk2]
       exact ⟨S.fr, by simp [c1, c2], es', c', hg, MI'⟩
def OkAt (N : Nat) (l : List Int) (i : Nat) : Prop := 0 <= l.getD i 0 /\ l.getD i 0 < N /\ l.getD i 0 ∉ l.take i
theorem mayIdx_ok {h0 : Hp} (ok : h0.t.Sized h0.n) {b5 b2 bm N : Nat} {v : Value} {l : List Int} (hv : ax h0 1 (encI .i64) v l) (hl : l.length <= 1000) (e5 : h0.load b5 0 1 = some [.map (some bm)]) (e2 : h0.load b2 0 1 = some [.int .i64 N]) (hm : h0.get bm = some (.map [] 0)) (n5 : b5 ≠ bm) (n2 : b2 ≠ bm) :
 Ret xa 127 [v, .func (.func 83) #[] #[ptrTo b5, ptrTo b2]] h0 fun r h' => Mo (· = bm) h0 h' /\ ∃ z, r = .int .i64 z /\ (0 <= z ↔ ¬ ∀ i, i < l.length -> OkAt N l i) := by
 have hvb : ∀ c, av v c -> ¬ c = bm := by
  rintro c hc rfl
  rcases hv with ⟨rfl, _⟩ | ⟨b, o, s, c', rfl, _, h3⟩
  . exact hc.elim
  . have : b = c := hc
    subst this
    simp [Hp.load, hm] at h3
 refine ae (n := 19) (rs := [.tmp 4]) rfl Tryz.e127 rfl rfl rfl (lbt rfl) ?_
 simp only [BS, LB, Nat.reduceLT, Nat.reduceEqDiff, Tryz.FFtb1127, hv.lenq]
 refine bg (fun (i : Nat) ρ h => i <= l.length /\ Mo (· = bm) h0 h /\ (∃ es c f, h.get bm = some (.map es c) /\ cN es c f /\ ∀ x, f x = if x ∈ l.take i then some (.int .i64 1) else none) /\ (∀ j, j < i -> OkAt N l j) /\ ρ 0 = v /\ ρ 1 = .func (.func 83) #[] #[ptrTo b5, ptrTo b2] /\ ρ 7 = .int .i64 l.length /\ ρ 8 = .int .i64 i) (fun i => l.length - i) ?_ 0 _ _ ?_
 . intro i ih ρ h ⟨hi, mo, ⟨es, c, f, hg, MI, hf⟩, hok, r0, r1, r7, r8⟩
   by_cases hlt : i < l.length
   . obtain ⟨q, o, hidx, hld⟩ := (hv.mo mo hvb).ix (kd := .i64) (dG .i64) hlt
     have w : ar .i64 ((i : Int) + 1) = ((i + 1 : Nat) : Int) := by rw [wrap64] <;> omega
     have ld : ∀ {b : Nat} {x}, b ≠ bm -> h0.load b 0 1 = some x -> h.load b 0 1 = some x := fun hne e => by
      have := mo.get _ (bC mo.ok0 e) hne
      unfold Hp.load at e ⊢
      rw [this]; exact e
     have gd : l.getD i 0 = l[i] := by simp [xb, hlt]
     simp only [BS, LB, Nat.reduceLT, Nat.reduceEqDiff, Tryz.FFtb1127, r0, r1, r7, r8, aJ, hlt, hidx, hld, encI]
     refine step_ret (may1_ok mo.ok (x := l[i]) (N := N) (k := if l[i] ∈ l.take i then 1 else 0) (ld n5 e5) (ld n2 e2) hg MI (by rw [hf]; split <;> rfl) (by split <;> omega) n5 n2) ?_
     rintro r h' ⟨f1, rfl, es', c', hg', MI'⟩
     have mo' := mo.trans f1 (fun _ h => .inl h)
     by_cases hw : OkAt N l i
     . have e : decide (l[i] < 0 \/ (N : Int) <= l[i] \/ (if l[i] ∈ l.take i then 1 else 0) = 1) = false := by
        obtain ⟨w1, w2, w3⟩ := hw
        rw [gd] at w1 w2 w3
        rw [if_neg w3]
        simp; omega
       rw [e]
       have nm : l[i] ∉ l.take i := by have := hw.2.2; rwa [gd] at this
       simp only [BS, LB, Nat.reduceLT, Nat.reduceEqDiff, r8, w]
       refine ih (i + 1) _ _ (by omega) ⟨by omega, mo', ⟨es', c', _, hg', MI', fun x => ?_⟩, fun j hj => ?_, by simp [aa, r0], by simp [aa, r1, ab], by simp [aa, r7], by simp [aa]⟩
       . have et := xt hlt
         rw [if_neg nm]
         unfold cV
         by_cases ex : x = l[i]
         . rw [if_pos ex, if_pos (by rw [et]; exact xM _ (List.mem_singleton.2 ex))]; rfl
         . rw [if_neg ex, hf]
           have : x ∈ l.take (i + 1) ↔ x ∈ l.take i := by rw [et, List.mem_append, List.mem_singleton]; exact ⟨fun h => h.resolve_right ex, .inl⟩
           simp only [this]
       . by_cases e2 : j = i
         . subst e2; exact hw
         . exact hok j (by omega)
     . have e : decide (l[i] < 0 \/ (N : Int) <= l[i] \/ (if l[i] ∈ l.take i then 1 else 0) = 1) = true := by
        unfold OkAt at hw
        rw [gd] at hw
        simp only [decide_eq_true_eq]
        by_cases nm : l[i] ∈ l.take i
        . rw [if_pos nm]; exact .inr (.inr rfl)
        . by_cases a1 : l[i] < 0
          . exact .inl a1
          . by_cases a2 : (N : Int) <= l[i]
            . exact .inr (.inl a2)
            . exact absurd ⟨by omega, by omega, nm⟩ hw
       rw [e]
       simp only [BS, LB, ac, Nat.reduceLT, Nat.reduceEqDiff]
       exact ⟨mo', _, rfl, by simp only [Int.natCast_nonneg, true_iff]; exact fun h => hw (h i hlt)⟩
   . simp only [BS, LB, ac, Nat.reduceLT, Nat.reduceEqDiff, r7, r8, aJ, hlt]
     exact ⟨mo, _, rfl, ⟨fun h => by omega, fun h => absurd (fun j hj => hok j (by omega)) h⟩⟩
 . exact ⟨xk _, Mo.refl ok, ⟨[], 0, fun _ => none, hm, pd, fun x => by simp⟩, fun j hj => by omega, by simp [aa, aQ], by simp [aa, aQ, bU, ab], by simp [aa], by simp [aa]⟩
noncomputable instance mayDec (N : Nat) (l : List Int) : Decidable (ij N l) := Classical.propDecidable _
theorem mayCf_ok {h0 : Hp} (ok : h0.t.Sized h0.n) {b5 b2 bm N : Nat} {v : Value} {l : List Int} (hv : ax h0 1 (encI .i64) v l) (hl : l.length <= 1000) (e5 : h0.load b5 0 1 = some [.map (some bm)]) (e2 : h0.load b2 0 1 = some [.int .i64 N]) (hm : h0.get bm = some (.map [] 0)) (n5 : b5 ≠ bm) (n2 : b2 ≠ bm) (d : Decidable (∀ i, i < l.length -> OkAt N l i)) :
 Ret xa 84 [v, .func (.func 83) #[] #[ptrTo b5, ptrTo b2]] h0 fun r h' => Mo (· = bm) h0 h' /\ r = .bool (!decide (∀ i, i < l.length -> OkAt N l i)) := by
 refine ae (n := 9) (rs := [.tmp 4]) rfl Tryz.e84 rfl rfl rfl (lbt rfl) ?_
 simp only [BS, LB, Nat.reduceLT, Nat.reduceEqDiff]
 refine step_ret (mayIdx_ok ok hv hl e5 e2 hm n5 n2) ?_
 rintro r h ⟨mo, z, rfl, hz⟩
 by_cases c : ∀ i, i < l.length -> OkAt N l i
 . have c2 : ¬ (0 <= z) := fun h => hz.1 h c
   simp only [BS, LB, ac, Nat.reduceLT, Nat.reduceEqDiff, c2]
   exact ⟨mo, by rw [decide_eq_true c]; rfl⟩
 . have c2 : 0 <= z := hz.2 c
   simp only [BS, LB, ac, Nat.reduceLT, Nat.reduceEqDiff, c2]
   exact ⟨mo, by rw [decide_eq_false c]; rfl⟩
theorem may_ok {h0 : Hp} (ok : h0.t.Sized h0.n) {v : Value} {l : List Int} {N : Nat} (hv : ax h0 1 (encI .i64) v l) (hl : l.length <= 1000) : aZ xa 36 [.int .i64 N, v] h0 (.bool (decide (ij N l))) := by
 have S := Si ok
 refine ae (n := 18) (rs := [.tmp 4]) rfl Tryz.e36 rfl rfl rfl (lbt rfl) ?_
 simp only [BS, Nat.reduceLT]
 refine am (bz (by intro x e; cases e)) S ?_; clear S; intro h b2 S n_b2; simp only [ag] at S
 simp only [BS]
 refine am qS S ?_; clear S; intro h bm S n_bm
 simp only [BS, Tryz.FFtb136]
 refine am ay S ?_; clear S; intro h b5 S n_b5
 simp only [BS, LB, Nat.reduceLT, Nat.reduceEqDiff]
 refine aB (aE S (i := 0) rfl ?_ ?_ ?_ ono) ?_
 . exact (by simp only [Tryz.FFtb136])
 . exact (by exact fl_map)
 . exact xD (lbt rfl)
 clear S; rintro h ⟨S, mo⟩; clear mo; simp only [LC, ag, lay, xi, xj, Nat.reduceAdd] at S
 by_cases h16 : l.length <= 16
 . have c1 : (l.length : Int) <= 16 := by omega
   simp only [BS, LB, Nat.reduceLT, Nat.reduceEqDiff, Tryz.FFtb136, hv.lenq, c1]
   have ap := S.apart
   simp only [keys, xP, xR, List.filterMap_nil, List.append_nil, List.nodup_cons, List.mem_cons, List.not_mem_nil, or_false, not_or] at ap
   have d : Decidable (∀ i, i < l.length -> OkAt N l i) := Classical.propDecidable _
   refine step_ret (mayCf_ok S.ok (hv.gr S.gr) hl (S.ld (b := b5) (o := 0) m0 rfl) (S.ld (b := b2) (o := 0) m2 rfl) (S.own _ m1).2 ap.1.1 (fun e => ap.2.1 e.symm) d) ?_
   rintro r h ⟨mo, rfl⟩
   have g2 : Gr h0 h := (S.fr.trans mo (fun c hc => .inr (by subst hc; exact n_bm)) : Mo NoM h0 h).gr
   simp only [BS, LB, ac, Nat.reduceLT, Nat.reduceEqDiff]
   refine ⟨?_, g2⟩
   congr 1
   by_cases c : ∀ i, i < l.length -> OkAt N l i
   . have : ij N l := ⟨h16, c⟩
     rw [decide_eq_true c, decide_eq_true this]; rfl
   . have : ¬ ij N l := fun h => c h.2
     rw [decide_eq_false c, decide_eq_false this]; rfl
 . have c1 : ¬ (l.length : Int) <= 16 := by omega
   simp only [BS, LB, ac, Nat.reduceLT, Nat.reduceEqDiff, Tryz.FFtb136, hv.lenq, c1]
   exact ⟨by have : ¬ ij N l := fun h => h16 h.1; simp [this], S.gr⟩
open Tryz in
def Tryz.FFtb286 := aj a1 <| aj s1 <| aj z1 <| aj n1 <| aj u2 <| aj a2 <| aj s2 <| aj z2 <| aj i2 <| aj u3 <| aj a3 <| aj s3 <| aj z3 <| aj i3 <| aj u4 <| aj a4 <| aj s4 <| aj z4 <| aj n4 <| aj u25 <| aj a25 <| aj s25 <| aj z25 <| aj q25 <| aj n25 <| aj a30 <| aj s30 <| aj z30 <| aj i30 <| aj n30 <| aj p30 <| aj ff30 <| aj d30 <| aj u32 <| aj a32 <| aj s32 <| aj z32 <| aj q32 <| aj i32 <| aj n32 <| aj u40 <| aj a40 <| aj s40 <| aj z40 <| aj q40 <| aj n40 <| aj a94 <| aj s94 <| aj z94 <| aj n94 <| aj a127 <| aj s127 <| aj z127 <| aj n127 <| aj u146 <| aj a146 <| aj s146 <| aj z146 <| aj q146 <| aj n146 <| aj a148 <| aj s148 <| aj z148 <| aj i148 <| aj n148 <| aj p148 <| aj ff148 <| aj d148 <| aj a158 <| aj s158 <| aj z158 <| aj i158 <| aj n158 <| aj p158 <| aj ff158 <| d158
open Tryz in
def Tryz.FFtb285 := aj a1 <| aj s1 <| aj z1 <| aj n1 <| aj u2 <| aj a2 <| aj s2 <| aj z2 <| aj i2 <| aj u3 <| aj a3 <| aj s3 <| aj z3 <| aj i3 <| aj u4 <| aj a4 <| aj s4 <| aj z4 <| aj n4 <| aj u6 <| aj a6 <| aj s6 <| aj z6 <| aj i6 <| aj a7 <| aj s7 <| aj z7 <| aj i7 <| aj n7 <| aj p7 <| aj ff7 <| aj d7 <| aj u25 <| aj a25 <| aj s25 <| aj z25 <| aj q25 <| aj n25 <| aj u71 <| aj a71 <| aj s71 <| aj z71 <| aj q71 <| aj n71 <| aj a92 <| aj s92 <| aj z92 <| n92
open Classical in
noncomputable def dOf (B : List Arc) (s v : Nat) : Nat := if h : ∃ x, IsD B s v x then h.choose else 0
theorem dOf_is {B : List Arc} {s v x : Nat} (h : IsD B s v x) : dOf B s v = x /\ IsD B s v (dOf B s v) := by
 have he : ∃ x, IsD B s v x := ⟨x, h⟩
 have e : dOf B s v = he.choose := by unfold dOf; rw [dif_pos he]
 rw [e]
 exact ⟨he.choose_spec.uniq h, he.choose_spec⟩
noncomputable def rowD (B : List Arc) (N s : Nat) : List Int := (xm N).map fun v => ((dOf B s v : Nat) : Int)
theorem rowD_of {B : List Arc} {N s : Nat} {D : Nat -> Nat} (h : ∀ v, IsD B s v (D v)) : ((xm N).map D).map (fun (x : Nat) => (x : Int)) = rowD B N s := by
 unfold rowD
 rw [List.map_map]
 refine List.map_congr_left fun v _ => ?_
 show ((D v : Nat) : Int) = _
 rw [(dOf_is (h v)).1]
def RunF (E : Env) (g : FuncId) (γ : Gra) (pn : Value) (B : List Arc) : Prop := ∀ (h : Hp) (nb : Nat), h.t.Sized h.n -> bN h nb pn γ -> ∀ s, s < γ.nodes -> Ret E g [pn, .int .i64 (s : Nat)] h fun r h' => Gr h h' /\ qd h' h.n r B s γ.nodes
theorem runTo {γ : Gra} (hγ : Good γ) {pn : Value} : RunF xa 41 γ pn (seen γ.arcs Arc.t Arc.s) := fun h nb ok hn s hs => u7 ok hγ hn hs
theorem runFrom {γ : Gra} (hγ : Good γ) {pn : Value} : RunF xa 42 γ pn (seen γ.arcs Arc.s Arc.t) := fun h nb ok hn s hs => sS ok hγ hn hs
def PRow (m : Nat) (R : Nat -> List Int) (i : Nat) (h : Hp) (F : List Nat) (x : List Value) : Prop := ∃ w, x = [w] /\ ax h 1 (encI .i64) w (R i) /\ ∀ c, av w c -> m <= c /\ c ∉ F
theorem rows_ok {h0 : Hp} (ok : h0.t.Sized h0.n) {p vl ve : Value} (f1 : Fl p) (f2 : Fl vl) (f3 : Fl ve) : Ret xa 40 [p, vl, ve] h0 fun v h' => Gr h0 h' /\ ∃ b1 b2 b3, v = .func (.func 86) #[] #[ptrTo b1, ptrTo b2, ptrTo b3] /\ h0.n <= b1 /\ h0.n <= b2 /\ h0.n <= b3 /\ h'.load b1 0 1 = some [vl] /\ h'.load b2 0 1 = some [ve] /\ h'.load b3 0 1 = some [p] := by
 have S := Si ok
 refine ae (n := 8) (rs := [.tmp 6]) rfl Tryz.e40 rfl rfl rfl (lbt rfl) ?_
 simp only [BS, Nat.reduceLT]
 refine am (cH (by assumption)) S ?_; clear S; intro h b3 S n_b3
 simp only [BS, Nat.reduceLT, Nat.reduceEqDiff, if_false]
 refine am (cH (by assumption)) S ?_; clear S; intro h b1 S n_b1
 simp only [BS, Nat.reduceLT, Nat.reduceEqDiff, if_false]
 refine am (cH (by assumption)) S ?_; clear S; intro h b2 S n_b2
 simp only [BS, LB, ac, Nat.reduceLT, Nat.reduceEqDiff]
 exact ⟨S.gr, b1, b2, b3, rfl, n_b1, n_b2, n_b3, S.ld m1 rfl, S.ld m0 rfl, S.ld m2 rfl⟩
theorem rows_it {hq h0 : Hp} (okq : hq.t.Sized hq.n) (ok0 : h0.t.Sized h0.n) (kq : fL hq h0) (nq : hq.n <= h0.n) {pn vl : Value} {γ : Gra} {nb b1 b2 b3 m : Nat} (hn : bN hq nb pn γ) {l : List Int} (hl : ax h0 1 (encI .i64) vl l) (hok : ∀ i, i < l.length -> 0 <= l.getD i 0 /\ l.getD i 0 < γ.nodes) (hlen : l.length < 1000) {g : FuncId} {B : List Arc} (hr : RunF xa g γ pn B) (hm : m <= h0.n)
 (e1 : h0.load b1 0 1 = some [vl]) (e2 : h0.load b2 0 1 = some [.func (.func g) #[] #[]]) (e3 : h0.load b3 0 1 = some [pn]) :
 IterP xa 86 [ptrTo b1, ptrTo b2, ptrTo b3] h0 (fun c => c = b1 \/ c = b2 \/ c = b3 \/ av vl c \/ c < hq.n) l.length (PRow m fun i => rowD B γ.nodes (l.getD i 0).toNat) := by
 intro lb J Y h F s hj
 refine enter (n := 22) (rs := []) rfl Tryz.e86 rfl rfl rfl (lbt rfl) ?_
 have l1 := s.load ok0 e1 (.inl rfl)
 simp only [BS, LB, Nat.reduceLT, Tryz.FFtb286, l1, hl.lenq]
 refine bg (fun (i : Nat) ρ h => i <= l.length /\ ∃ F, ItS h0 (fun c => c = b1 \/ c = b2 \/ c = b3 \/ av vl c \/ c < hq.n) h F /\ J i h F /\ ρ 0 = .func (.yield lb) #[] #[] /\ ρ 2 = ptrTo b2 /\ ρ 3 = ptrTo b3 /\ ρ 7 = vl /\ ρ 8 = .int .i64 l.length /\ ρ 9 = .int .i64 i) (fun i => l.length - i) ?_ 0 _ _ ?_
 . clear l1
   intro i ih ρ h ⟨hi, F, s, hj, r0, r2, r3, r7, r8, r9⟩
   by_cases hlt : i < l.length
   . obtain ⟨c, o, hidx, hld⟩ := (s.sl ok0 hl (fun b h => .inr (.inr (.inr (.inl h))))).ix (kd := .i64) (dG .i64) hlt
     have l2 := s.load ok0 e2 (.inr (.inl rfl))
     have l3 := s.load ok0 e3 (.inr (.inr (.inl rfl)))
     have nt : bN h nb pn γ := hn.keep okq (s.keep kq nq (fun c hc => .inr (.inr (.inr (.inr hc)))))
     have w : ar .i64 ((i : Int) + 1) = ((i + 1 : Nat) : Int) := by rw [wrap64] <;> omega
     have gd : l.getD i 0 = l[i] := by simp [xb, hlt]
     have hb := hok i hlt
     rw [gd] at hb
     obtain ⟨mk, emk⟩ : ∃ k : Nat, l[i] = k := ⟨l[i].toNat, by omega⟩
     rw [emk] at hld hb
     simp only [BS, LB, Nat.reduceLT, Nat.reduceEqDiff, Tryz.FFtb286, r0, r2, r3, r7, r8, r9, aJ, hlt, hidx, hld, encI, l2, l3]
     refine step_ret (hr h nb s.ok nt mk (by omega)) ?_
     rintro v h2 ⟨g1, vD, vA, vO, D, aL, O, rfl, s1, s2, s3, t4, t5, t6, t7, t8⟩
     simp only [BS, LB, Nat.reduceLT, Nat.reduceEqDiff, Tryz.FFtb286]
     refine uq Y (s.gr g1) (Y.gr _ _ _ _ hj g1) (i := i) hlt ⟨vD, rfl, ?_, fun c hc => ⟨?_, fun hF => ?_⟩⟩ ?_
     . have := sl_nat s1
       rw [rowD_of t5] at this
       show ax h2 1 _ vD (rowD B γ.nodes (l.getD i 0).toNat)
       rw [gd, emk]
       exact this
     . exact xh hm (xh s.n (t6 c (.inl hc)))
     . have h1 := s.lt c hF
       have h2 := t6 c (.inl hc)
       omega
     . intro h' F' a s' _ _
       simp only [BS, LB, Nat.reduceLT, Nat.reduceEqDiff, r9, w]
       exact ih (i + 1) _ _ (by omega) ⟨by omega, F', s', a, by simp [aa, r0], by simp [aa, r2, ab], by simp [aa, r3, ab], by simp [aa, r7], by simp [aa, r8], by simp [aa]⟩
   . simp only [BS, LB, Nat.reduceLT, r8, r9, aJ, hlt]
     have : i = l.length := by omega
     subst this
     exact dp (dk ⟨rfl, _, rfl, rfl, _, F, rfl, hj⟩)
 . exact ⟨by omega, F, s, hj, by simp [aa, cw], by simp [aa, cw, ab], by simp [aa, cw, ab], by simp [aa], by simp [aa], by simp [aa]⟩
theorem sG {h0 : Hp} (ok : h0.t.Sized h0.n) {g : FuncId} {post : Array Value} {D : Nat -> Prop} {n m : Nat} {R : Nat -> List Int} (it : IterP xa g post.toList h0 D n (PRow m R)) (hm : m <= h0.n) (hn : n < 1000) :
 Ret xa 85 [.slice none 0 0, .func (.func g) #[] post] h0 fun r h' => Gr h0 h' /\ eJ h' m r n R := by
 have S := Si ok
 refine ae (n := 13) (rs := [.tmp 4]) rfl Tryz.e85 rfl rfl rfl (lbt rfl) ?_
 simp only [BS, Nat.reduceLT]
 refine am (cH (by exact bF)) S ?_; clear S; intro h b2 S n_b2
 simp only [BS, Nat.reduceLT, Nat.reduceEqDiff, if_false]
 replace S := S.nilG (k := 1)
 have g0 := S.gr
 refine ja S (g := g) (a := #[]) (b := post) (by simp [bW, aa, aQ, bU]) rfl rfl ?_
 intro h2 db lb S' hdb hlb g2
 obtain ⟨X, hX, S'⟩ : ∃ X : eX, X = _ /\ St NoM h0 h2 [(lb, .loop X), (db, .dfr), (b2, .row [.slice none 0 0] 1)] [(.slice none 0 0, 1, [])] := ⟨_, rfl, S'⟩
 have hJ : YldP xa lb (fun k h' F => ∃ (ws : List Value) (vR : Value), St NoM h0 h' [(lb, .loop X), (db, .dfr), (b2, .row [vR] 1)] [(vR, 1, ws)] /\ ws.length = k /\ k <= n /\ (∀ i w, ws[i]? = some w -> ax h' 1 (encI .i64) w (R i) /\ ∀ c, av w c -> m <= c /\ c ∉ F) /\ F = keys [(lb, .loop X), (db, .dfr), (b2, .row [vR] 1)] [(vR, 1, ws)]) n (PRow m R) := by
  refine ⟨?_, ?_, ?_⟩
  . rintro i h F ⟨ws, vR, S, _, _, _, rfl⟩; exact ⟨S.ok, fun b hb => S.key_lt hb⟩
  . rintro i h F h' ⟨ws, vR, S, a, b, c, rfl⟩ gg; exact ⟨ws, vR, S.call gg, a, b, fun i w hw => ⟨(c i w hw).1.gr gg, (c i w hw).2⟩, rfl⟩
  . rintro i x hR F hi ⟨w, rfl, sw, hw⟩ ⟨ws, vR, S, a, b, c, rfl⟩
    subst hX
    obtain ⟨wa, wn, wc, rfl⟩ := sw.form
    have fw : Fl (.slice wa wn wc) := bF
    refine jc (S.get m0) (by rw [Tryz.e85]; rfl) rfl ?_
    have S0 := S
    replace S := S.base
    simp only [BS, LB, Nat.reduceLT, Nat.reduceEqDiff]
    refine iw S (i := 0) rfl rfl rfl rfl rfl ?_
    clear S; intro h S
    simp only [LC] at S
    simp only [BS, LB, Nat.reduceLT, Nat.reduceEqDiff, Tryz.FFtb285, S.ld (b := b2) (o := 0) m2 rfl]
    refine am (bM (by exact Tryz.u71) (by exact Tryz.e25E) (by decide) (by rfl)) S ?_; clear S; intro h bs S n_bs; simp only [LC, aP, bD, ag, Nat.reduceMul, Nat.reduceAdd, xq, xu, xl, xx] at S
    simp only [BS, LB, Nat.reduceLT, Nat.reduceEqDiff]
    have src : aN h 1 (.slice (some ⟨bs, 0, none⟩) 1 1) = some (1, [.slice wa wn wc]) := by simp only [aN]; rw [S.lds (b := bs) (o := 0) (n := 1 * 1) m0 (lbt rfl)]; rfl
    replace S := S.drop1
    refine ep (S.grow (j := 0) (m := 1) (new := [.slice wa wn wc]) rfl Tryz.u71 Tryz.e25E (by decide) Tryz.n71 src rfl (by decide) (by simp [fw.2.1]) (by simp; omega)) ?_
    clear S src; rintro h vR' S
    simp only [LC] at S
    have fv : Fl vR' := by
     rcases (S.gown _ m0).1 with ⟨e, _⟩ | ⟨_, _, e, _⟩
     . rw [show vR' = _ from e]; exact bF
     . rw [show vR' = _ from e]; exact bF
    simp only [BS, LB, Nat.reduceLT, Nat.reduceEqDiff]
    refine aB (aE S (i := 2) rfl Tryz.s71 fv (xD (lbt rfl)) ono) ?_
    clear S; rintro h ⟨S, _⟩
    simp only [LC] at S
    simp only [BS]
    refine eI S (i := 0) rfl ?_
    clear S; intro h S
    simp only [LC] at S
    refine ⟨rfl, _, ⟨ws ++ [.slice wa wn wc], vR', S0.rebase S, by simp [a], by omega, fun j u hu => ?_, rfl⟩, S.fr, S.key_new⟩
    have key : ax h 1 (encI .i64) u (R j) /\ ∀ c, av u c -> m <= c /\ c ∉ keys [(lb, Ob.dfr), (db, .dfr), (b2, .dfr)] [(vR, 1, ws)] /\ c < hR.n := by
     by_cases hj : j < ws.length
     . rw [List.getElem?_append_left hj] at hu
       obtain ⟨q1, q2⟩ := c j u hu
       exact ⟨q1.mo S.fr (fun x hx hM => (q2 x hx).2 hM), fun x hx => ⟨(q2 x hx).1, (q2 x hx).2, q1.lt S0.ok hx⟩⟩
     . rw [List.getElem?_append_right (by omega)] at hu
       have hj2 : j - ws.length = 0 := by
        have := (List.getElem?_eq_some_iff.1 hu).1
        simp at this; omega
       rw [hj2] at hu
       cases hu
       have : j = ws.length := by omega
       subst this
       rw [a]
       exact ⟨sw.mo S.fr (fun x hx hM => (hw x hx).2 hM), fun x hx => ⟨(hw x hx).1, (hw x hx).2, sw.lt S0.ok hx⟩⟩
    refine ⟨key.1, fun x hx => ⟨(key.2 x hx).1, fun hm => ?_⟩⟩
    rcases S.key_new x hm with h1 | h1
    . exact (key.2 x hx).2.1 h1
    . have := (key.2 x hx).2.2; omega
 refine gm (it lb _ hJ h2 _ ?_ ⟨[], _, S', rfl, xk _, fun i w hw => by simp at hw, rfl⟩) ?_
 . exact ⟨S'.ok, S'.fr.n, fun b hb _ => S'.gr.get b hb, fun b hb h => by have := (S'.key_own hb).elim (fun h => h) (fun h => h.elim); omega, fun b hb => S'.key_lt hb⟩
 . rintro o rc h' ⟨rfl, u, F, rfl, ws, vR, T, a, _, c, rfl⟩
   subst hX
   refine ⟨_, T.get m0, Nat.zero_ne_one, ?_⟩
   have c2 : ∀ i w, ws[i]? = some w -> ax (h'.put lb .dead) 1 (encI .i64) w (R i) /\ ∀ c, av w c -> m <= c /\ c ∉ keys [(db, .dfr), (b2, .row [vR] 1)] [(vR, 1, ws)] := fun i w hw => by
    obtain ⟨q1, q2⟩ := c i w hw
    exact ⟨q1.mo ((Mo.refl (M := (· = lb)) T.ok).put (.inr rfl) .dead) (fun x hx e => (q2 x hx).2 (by rw [e]; exact m0)), fun x hx => ⟨(q2 x hx).1, fun hm => (q2 x hx).2 (List.mem_cons_of_mem _ hm)⟩⟩
   replace T := T.dead
   have S := T
   show Run _ _ _ _ _ _ _ _
   simp only [BS, LB, Nat.reduceLT, Nat.reduceEqDiff, Tryz.FFtb285, S.ld (b := b2) (o := 0) m1 rfl]
   refine fV (jE [db] _ (L := [(b2, _)]) T.base fun h3 S3 => ⟨rfl, _, rfl, ?_⟩)
   refine ⟨(T.fr.trans S3.fr (fun c hc => (T.key_own hc).symm) : Mo NoM h0 h3).gr, ws, ?_, a, fun x hx => ?_, fun i w hw => ⟨(c2 i w hw).1.mo S3.fr (fun x hx hM => ((c2 i w hw).2 x hx).2 hM), fun x hx => ((c2 i w hw).2 x hx).1⟩⟩
   . exact (S3.gown _ m0).1.sl (flat_encV ws).symm tv (by decide)
   . exact xh hm (((T.gblk m0 hx).1).elim (fun h => h) (fun h => h.elim))
theorem pL {h0 : Hp} (ok : h0.t.Sized h0.n) {g : FuncId} {post : Array Value} {D : Nat -> Prop} {n m : Nat} {R : Nat -> List Int} (it : IterP xa g post.toList h0 D n (PRow m R)) (hm : m <= h0.n) (hn : n < 1000) :
 Ret xa 39 [.func (.func g) #[] post] h0 fun r h' => Gr h0 h' /\ eJ h' m r n R := by
 have S := Si ok
 refine ae (n := 5) (rs := [.tmp 2]) rfl Tryz.e39 rfl rfl rfl (lbt rfl) ?_
 simp only [BS, LB, Nat.reduceLT, Nat.reduceEqDiff]
 refine step_ret (sG S.ok it hm hn) ?_; intro v h ⟨g, L⟩; replace S := S.call g; clear g
 simp only [BS, LB, ac, Nat.reduceLT, Nat.reduceEqDiff]
 exact ⟨S.gr, L⟩
open Tryz in
def Tryz.FFtb311 := aj a1 <| aj s1 <| aj z1 <| aj n1 <| aj u2 <| aj a2 <| aj s2 <| aj z2 <| aj i2 <| aj u3 <| aj a3 <| aj s3 <| aj z3 <| aj i3 <| aj u4 <| aj a4 <| aj s4 <| aj z4 <| aj n4 <| aj u25 <| aj a25 <| aj s25 <| aj z25 <| aj q25 <| aj n25 <| aj a30 <| aj s30 <| aj z30 <| aj i30 <| aj n30 <| aj p30 <| aj ff30 <| aj d30 <| aj u32 <| aj a32 <| aj s32 <| aj z32 <| aj q32 <| aj i32 <| aj n32 <| aj u38 <| aj a38 <| aj s38 <| aj z38 <| aj q38 <| aj i38 <| aj n38 <| aj u40 <| aj a40 <| aj s40 <| aj z40 <| aj q40 <| aj n40 <| aj u71 <| aj a71 <| aj s71 <| aj z71 <| aj q71 <| aj n71 <| aj a92 <| aj s92 <| aj z92 <| aj n92 <| aj a94 <| aj s94 <| aj z94 <| aj n94 <| aj a96 <| aj s96 <| aj z96 <| aj i96 <| aj n96 <| aj p96 <| aj ff96 <| aj d96 <| aj u146 <| aj a146 <| aj s146 <| aj z146 <| aj q146 <| aj n146 <| aj a148 <| aj s148 <| aj z148 <| aj i148 <| aj n148 <| aj p148 <| aj ff148 <| d148
open Tryz in
def Tryz.FFtb358 := aj a1 <| aj s1 <| aj z1 <| aj n1 <| aj u2 <| aj a2 <| aj s2 <| aj z2 <| aj i2 <| aj u3 <| aj a3 <| aj s3 <| aj z3 <| aj i3 <| aj u4 <| aj a4 <| aj s4 <| aj z4 <| aj n4 <| aj u25 <| aj a25 <| aj s25 <| aj z25 <| aj q25 <| aj n25 <| aj u38 <| aj a38 <| aj s38 <| aj z38 <| aj q38 <| aj i38 <| aj n38 <| aj u40 <| aj a40 <| aj s40 <| aj z40 <| aj q40 <| aj n40 <| aj u71 <| aj a71 <| aj s71 <| aj z71 <| aj q71 <| aj n71 <| aj a96 <| aj s96 <| aj z96 <| aj i96 <| aj n96 <| aj p96 <| aj ff96 <| d96
open Tryz in
def Tryz.FFtb346 := aj a1 <| aj s1 <| aj z1 <| aj n1 <| aj u2 <| aj a2 <| aj s2 <| aj z2 <| aj i2 <| aj u3 <| aj a3 <| aj s3 <| aj z3 <| aj i3 <| aj u4 <| aj a4 <| aj s4 <| aj z4 <| aj n4 <| aj u25 <| aj a25 <| aj s25 <| aj z25 <| aj q25 <| aj n25 <| aj u38 <| aj a38 <| aj s38 <| aj z38 <| aj q38 <| aj i38 <| aj n38 <| aj u40 <| aj a40 <| aj s40 <| aj z40 <| aj q40 <| aj n40 <| aj u71 <| aj a71 <| aj s71 <| aj z71 <| aj q71 <| aj n71 <| aj a96 <| aj s96 <| aj z96 <| aj i96 <| aj n96 <| aj p96 <| aj ff96 <| d96
open Tryz in
def Tryz.FFtb363 := aj a1 <| aj s1 <| aj z1 <| aj n1 <| aj u2 <| aj a2 <| aj s2 <| aj z2 <| aj i2 <| aj u3 <| aj a3 <| aj s3 <| aj z3 <| aj i3 <| aj u25 <| aj a25 <| aj s25 <| aj z25 <| aj q25 <| aj n25 <| aj u38 <| aj a38 <| aj s38 <| aj z38 <| aj q38 <| aj i38 <| aj n38 <| aj u40 <| aj a40 <| aj s40 <| aj z40 <| aj q40 <| aj n40 <| aj u71 <| aj a71 <| aj s71 <| aj z71 <| aj q71 <| aj n71 <| aj a96 <| aj s96 <| aj z96 <| aj i96 <| aj n96 <| aj p96 <| aj ff96 <| d96
open Tryz in
def Tryz.FFtb3147 := aj a1 <| aj s1 <| aj z1 <| aj n1 <| aj u2 <| aj a2 <| aj s2 <| aj z2 <| aj i2 <| aj u3 <| aj a3 <| aj s3 <| aj z3 <| aj i3 <| aj u25 <| aj a25 <| aj s25 <| aj z25 <| aj q25 <| aj n25 <| aj u38 <| aj a38 <| aj s38 <| aj z38 <| aj q38 <| aj i38 <| aj n38 <| aj u40 <| aj a40 <| aj s40 <| aj z40 <| aj q40 <| aj n40 <| aj u71 <| aj a71 <| aj s71 <| aj z71 <| aj q71 <| aj n71 <| aj a96 <| aj s96 <| aj z96 <| aj i96 <| aj n96 <| aj p96 <| aj ff96 <| d96
open Tryz in
def Tryz.FFtb362 := aj a1 <| aj s1 <| aj z1 <| aj n1 <| aj u2 <| aj a2 <| aj s2 <| aj z2 <| aj i2 <| aj u3 <| aj a3 <| aj s3 <| aj z3 <| aj i3 <| aj u4 <| aj a4 <| aj s4 <| aj z4 <| aj n4 <| aj u25 <| aj a25 <| aj s25 <| aj z25 <| aj q25 <| aj n25 <| aj u38 <| aj a38 <| aj s38 <| aj z38 <| aj q38 <| aj i38 <| aj n38 <| aj u40 <| aj a40 <| aj s40 <| aj z40 <| aj q40 <| aj n40 <| aj u71 <| aj a71 <| aj s71 <| aj z71 <| aj q71 <| aj n71 <| aj a96 <| aj s96 <| aj z96 <| aj i96 <| aj n96 <| aj p96 <| aj ff96 <| aj d96 <| aj a124 <| aj s124 <| aj z124 <| n124
noncomputable def toR (γ : Gra) (l : List Int) (i : Nat) : List Int := rowD (seen γ.arcs Arc.t Arc.s) γ.nodes (l.getD i 0).toNat
noncomputable def frR (γ : Gra) (l : List Int) (i : Nat) : List Int := rowD (seen γ.arcs Arc.s Arc.t) γ.nodes (l.getD i 0).toNat
theorem tw {h0 : Hp} (ok : h0.t.Sized h0.n) {γ : Gra} (hγ : Good γ) {pn vl : Value} {nb : Nat} (hn : bN h0 nb pn γ) {l : List Int} (hl : ax h0 1 (encI .i64) vl l) (hlen : l.length < 1000) :
 Ret xa 11 [pn, vl] h0 fun r h' => Gr h0 h' /\ ((¬ ij γ.nodes l /\ r = .pointer none) \/ (ij γ.nodes l /\ TabAt h' h0.n r γ.nodes l (toR γ l) (frR γ l))) := by
 have S := Si ok
 obtain ⟨bp, rfl⟩ : ∃ b, pn = ptrTo b := by obtain ⟨b, _, _, _, _, _, e, _⟩ := hn.ex; exact ⟨b, e⟩
 refine ae (n := 28) (rs := [.tmp 4]) rfl Tryz.e11 rfl rfl rfl (lbt rfl) ?_
 simp only [BS, LB, Nat.reduceLT, Nat.reduceEqDiff, Tryz.FFtb311]
 refine aq (cy S.ok (hn.gr S.gr)) ?_; intro h g; replace S := S.call g; clear g
 simp only [BS, LB, Nat.reduceLT, Nat.reduceEqDiff]
 refine aq (may_ok S.ok (hl.gr S.gr) (by omega)) ?_; intro h g; replace S := S.call g; clear g
 by_cases hm : ij γ.nodes l
 . have hd : decide (ij γ.nodes l) = true := decide_eq_true hm
   simp only [BS, LB, Nat.reduceLT, Nat.reduceEqDiff, hd]
   refine aq (cy S.ok (hn.gr S.gr)) ?_; intro h g; replace S := S.call g; clear g
   simp only [BS, LB, Nat.reduceLT, Nat.reduceEqDiff]
   have k1 := S.fr.n
   refine step_ret (jN S.ok (dG .i64) (hl.gr S.gr) (by omega)) ?_; intro v h ⟨g, slM, hM⟩; replace S := S.call g; clear g
   rename Value => vM
   obtain ⟨ma, mn, mc, rfl⟩ := slM.form
   simp only [BS, LB, Nat.reduceLT, Nat.reduceEqDiff]
   refine step_ret (rows_ok S.ok eo hl.fl jd) ?_; intro v h ⟨g, b1, b2, b3, e, q1, q2, q3, y1, y2, y3⟩; replace S := S.call g; replace slM := slM.gr g; clear g
   subst e
   simp only [BS, LB, Nat.reduceLT, Nat.reduceEqDiff]
   have it := rows_it ok S.ok S.gr.keep S.fr.n hn (hl.gr S.gr) (fun i hi => ⟨(hm.2 i hi).1, (hm.2 i hi).2.1⟩) hlen (runTo hγ) (m := h0.n) S.fr.n y1 y2 y3
   refine step_ret (pL S.ok it S.fr.n hlen) ?_; intro v h ⟨g, L1⟩; replace S := S.call g; replace slM := slM.gr g; clear g
   rename Value => vT
   obtain ⟨ta, tn, tc, rfl⟩ : ∃ a n c, vT = .slice a n c := by obtain ⟨_, s, _⟩ := L1; exact s.form
   clear it y1 y2 y3 q1 q2 q3
   simp only [BS, LB, Nat.reduceLT, Nat.reduceEqDiff]
   refine step_ret (rows_ok S.ok eo hl.fl jd) ?_; intro v h ⟨g, b1, b2, b3, e, q1, q2, q3, y1, y2, y3⟩; replace S := S.call g; replace slM := slM.gr g; replace L1 := L1.gr g; clear g
   subst e
   simp only [BS, LB, Nat.reduceLT, Nat.reduceEqDiff]
   have it := rows_it ok S.ok S.gr.keep S.fr.n hn (hl.gr S.gr) (fun i hi => ⟨(hm.2 i hi).1, (hm.2 i hi).2.1⟩) hlen (runFrom hγ) (m := h0.n) S.fr.n y1 y2 y3
   refine step_ret (pL S.ok it S.fr.n hlen) ?_; intro v h ⟨g, L2⟩; replace S := S.call g; replace slM := slM.gr g; replace L1 := L1.gr g; clear g
   rename Value => vF
   obtain ⟨fa, fn, fc, rfl⟩ : ∃ a n c, vF = .slice a n c := by obtain ⟨_, s, _⟩ := L2; exact s.form
   simp only [BS, LB, Nat.reduceLT, Nat.reduceEqDiff, Nat.reduceAdd, Tryz.FFtb311]
   have Sb := S
   replace S := S.base
   refine am (bz (by intro x e; cases e)) S ?_; clear S; intro h b S n_b; simp only [ag] at S
   simp only [BS, LB, ac, Nat.reduceLT, Nat.reduceEqDiff]
   have f2 := S.fr
   have slM2 := slM.mo f2 (fun c _ hm => by cases hm)
   have L1' := L1.mo f2 (fun c hm => by cases hm)
   have L2' := L2.mo f2 (fun c hm => by cases hm)
   have hMt := S.row (b := b) m0
   replace S := Sb.rebase S
   exact ⟨S.gr, .inr ⟨hm, ⟨b, _, _, _, rfl, hMt, slM2, L1', L2', (S.own _ m0).1.elim (fun h => h) (fun h => h.elim), fun c hc => xh k1 (hM c hc)⟩⟩⟩
 . have hd : decide (ij γ.nodes l) = false := decide_eq_false hm
   simp only [BS, LB, ac, Nat.reduceLT, Nat.reduceEqDiff, hd]
   exact ⟨S.gr, .inl hm⟩
theorem lV {h0 : Hp} (ok : h0.t.Sized h0.n) {m N : Nat} {p : Value} {l : List Int} {R Q : Nat -> List Int} (t : TabAt h0 m p N l R Q) : aZ xa 58 [p] h0 (.int .i64 N) := by
 have S := Si ok
 obtain ⟨b, vM, vT, vF, rfl, hr, _⟩ := t.ex
 have l0 := hr.load1 (o := 0) rfl
 refine ae (n := 9) (rs := [.tmp 2]) rfl Tryz.e58 rfl rfl rfl (lbt rfl) ?_
 simp only [BS, LB, ac, Nat.reduceLT, Nat.reduceEqDiff, Tryz.FFtb358, l0]
 exact S.gr
theorem jP {h0 : Hp} (ok : h0.t.Sized h0.n) {m N : Nat} {p : Value} {l : List Int} {R Q : Nat -> List Int} (t : TabAt h0 m p N l R Q) (hlen : l.length < 1000) : Ret xa 46 [p] h0 fun r h' => Gr h0 h' /\ ax h' 1 (encI .i64) r l /\ ∀ c, av r c -> h0.n <= c := by
 have S := Si ok
 obtain ⟨b, vM, vT, vF, rfl, hr, sM, _⟩ := t.ex
 have l0 := hr.load1 (o := 1) rfl
 refine ae (n := 10) (rs := [.tmp 2]) rfl Tryz.e46 rfl rfl rfl (lbt rfl) ?_
 simp only [BS, LB, Nat.reduceLT, Nat.reduceEqDiff, Tryz.FFtb346, l0]
 refine step_ret (jN S.ok (dG .i64) sM (by omega)) ?_; intro v h ⟨g, sl, hc⟩; replace S := S.call g; clear g
 simp only [BS, LB, ac, Nat.reduceLT, Nat.reduceEqDiff]
 exact ⟨S.gr, sl, hc⟩
def fF (N n : Nat) (R : Nat -> List Int) (i v : Int) : Int := if 0 <= i /\ i < n /\ 0 <= v /\ v < N then (R i.toNat).getD v.toNat 0 else 72057594037927936
theorem tos_ok {h0 : Hp} (ok : h0.t.Sized h0.n) {m N : Nat} {p : Value} {l : List Int} {R Q : Nat -> List Int} (t : TabAt h0 m p N l R Q) : Ret xa 63 [p] h0 fun r h' => Gr h0 h' /\ eJ h' m r l.length R := by
 have S := Si ok
 obtain ⟨b, vM, vT, vF, rfl, hr, _, L, _⟩ := t.ex
 have l0 := hr.load1 (o := 2) rfl
 refine ae (n := 7) (rs := [.tmp 2]) rfl Tryz.e63 rfl rfl rfl (lbt rfl) ?_
 simp only [BS, LB, ac, Nat.reduceLT, Nat.reduceEqDiff, Tryz.FFtb363, l0]
 exact ⟨S.gr, L⟩
theorem froms_ok {h0 : Hp} (ok : h0.t.Sized h0.n) {m N : Nat} {p : Value} {l : List Int} {R Q : Nat -> List Int} (t : TabAt h0 m p N l R Q) : Ret xa 147 [p] h0 fun r h' => Gr h0 h' /\ eJ h' m r l.length Q := by
 have S := Si ok
 obtain ⟨b, vM, vT, vF, rfl, hr, _, _, L, _⟩ := t.ex
 have l0 := hr.load1 (o := 3) rfl
 refine ae (n := 7) (rs := [.tmp 2]) rfl Tryz.e147 rfl rfl rfl (lbt rfl) ?_
 simp only [BS, LB, ac, Nat.reduceLT, Nat.reduceEqDiff, Tryz.FFtb3147, l0]
 exact ⟨S.gr, L⟩
theorem tQ {h0 : Hp} (ok : h0.t.Sized h0.n) {m N : Nat} {p : Value} {l : List Int} {R Q W : Nat -> List Int} (t : TabAt h0 m p N l R Q) {g : FuncId} (hg : ∀ h, Gr h0 h -> Ret xa g [p] h fun r h' => Gr h h' /\ eJ h' m r l.length W) (hW : ∀ i, i < l.length -> (W i).length = N) {i v : Int} :
 aZ xa 62 [p, .func (.func g) #[p] #[], .int .i64 i, .int .i64 v] h0 (.int .i64 (fF N l.length W i v)) := by
 have S := Si ok
 obtain ⟨b, vM, vT, vF, rfl, hr, sM, _⟩ := t.ex
 have l0 := hr.load1 (o := 0) rfl
 have l1 := hr.load1 (o := 1) rfl
 unfold fF
 refine ae (n := 44) (rs := [.tmp 8]) rfl Tryz.e62 rfl rfl rfl (lbt rfl) ?_
 by_cases c1 : i < 0
 . rw [if_neg (by omega)]
   simp only [BS, LB, ac, Nat.reduceLT, Nat.reduceEqDiff, Tryz.FFtb362, c1]
   exact S.gr
 . by_cases c2 : (l.length : Int) <= i
   . rw [if_neg (by omega)]
     simp only [BS, LB, ac, Nat.reduceLT, Nat.reduceEqDiff, Tryz.FFtb362, l1, c1, c2, sM.lenq]
     exact S.gr
   . by_cases c3 : v < 0
     . rw [if_neg (by omega)]
       simp only [BS, LB, ac, Nat.reduceLT, Nat.reduceEqDiff, Tryz.FFtb362, l1, c1, c2, c3, sM.lenq]
       exact S.gr
     . by_cases c4 : (N : Int) <= v
       . rw [if_neg (by omega)]
         simp only [BS, LB, ac, Nat.reduceLT, Nat.reduceEqDiff, Tryz.FFtb362, l0, l1, c1, c2, c3, c4, sM.lenq]
         exact S.gr
       . rw [if_pos (by omega)]
         obtain ⟨i', rfl⟩ := xv (show 0 <= i by omega)
         obtain ⟨v', rfl⟩ := xv (show 0 <= v by omega)
         simp only [BS, LB, Nat.reduceLT, Nat.reduceEqDiff, Tryz.FFtb362, l0, l1, c1, c2, c3, c4, sM.lenq]
         refine step_ret (hg _ S.gr) ?_; intro v h ⟨g, L⟩; replace S := S.call g; clear g
         obtain ⟨w, ⟨c, o, x1, x2⟩, sw, _⟩ := L.row (i := i') (by omega)
         have hlw := hW i' (by omega)
         obtain ⟨c', o', y1, y2⟩ := sw.ix (kd := .i64) (dG .i64) (i := v') (by omega)
         have gd : (W i').getD v' 0 = (W i')[v'] := by simp [xb, show v' < (W i').length by omega]
         simp only [BS, LB, ac, Nat.reduceLT, Nat.reduceEqDiff, Tryz.FFtb362, x1, x2, y1, y2, encI, Int.toNat_natCast, gd]
         exact S.gr
theorem sH {h0 : Hp} (ok : h0.t.Sized h0.n) {m N : Nat} {p : Value} {l : List Int} {R Q : Nat -> List Int} (t : TabAt h0 m p N l R Q) (hW : ∀ i, i < l.length -> (R i).length = N) {i v : Int} : aZ xa 25 [p, .int .i64 i, .int .i64 v] h0 (.int .i64 (fF N l.length R i v)) := by
 have S := Si ok
 refine ae (n := 13) (rs := [.tmp 6]) rfl Tryz.e25 rfl rfl rfl (lbt rfl) ?_
 simp only [BS, LB, Nat.reduceLT, Nat.reduceEqDiff]
 refine aq (tQ S.ok t (fun h g => tos_ok g.ok (t.gr g)) hW) ?_; intro h g; replace S := S.call g; clear g
 simp only [BS, LB, ac, Nat.reduceLT, Nat.reduceEqDiff]
 exact S.gr
theorem qw {h0 : Hp} (ok : h0.t.Sized h0.n) {m N : Nat} {p : Value} {l : List Int} {R Q : Nat -> List Int} (t : TabAt h0 m p N l R Q) (hW : ∀ i, i < l.length -> (Q i).length = N) {i v : Int} : aZ xa 105 [p, .int .i64 i, .int .i64 v] h0 (.int .i64 (fF N l.length Q i v)) := by
 have S := Si ok
 refine ae (n := 13) (rs := [.tmp 6]) rfl Tryz.e105 rfl rfl rfl (lbt rfl) ?_
 simp only [BS, LB, Nat.reduceLT, Nat.reduceEqDiff]
 refine aq (tQ S.ok t (fun h g => froms_ok g.ok (t.gr g)) hW) ?_; intro h g; replace S := S.call g; clear g
 simp only [BS, LB, ac, Nat.reduceLT, Nat.reduceEqDiff]
 exact S.gr
open Tryz in
def Tryz.FFbw150 := aj a1 <| aj s1 <| aj z1 <| aj n1 <| aj u2 <| aj a2 <| aj s2 <| aj z2 <| aj i2 <| aj u3 <| aj a3 <| aj s3 <| aj z3 <| aj i3 <| aj u4 <| aj a4 <| aj s4 <| aj z4 <| aj n4 <| aj u38 <| aj a38 <| aj s38 <| aj z38 <| aj q38 <| aj i38 <| aj n38 <| aj u40 <| aj a40 <| aj s40 <| aj z40 <| aj q40 <| aj n40 <| aj a70 <| aj s70 <| aj z70 <| aj n70 <| aj u71 <| aj a71 <| aj s71 <| aj z71 <| aj q71 <| aj n71 <| aj a96 <| aj s96 <| aj z96 <| aj i96 <| aj n96 <| aj p96 <| aj ff96 <| aj d96 <| aj a172 <| aj s172 <| aj z172 <| n172
open Tryz in
def Tryz.FFbw119 := aj a1 <| aj s1 <| aj z1 <| aj n1 <| aj u2 <| aj a2 <| aj s2 <| aj z2 <| aj i2 <| aj u3 <| aj a3 <| aj s3 <| aj z3 <| aj i3 <| aj u4 <| aj a4 <| aj s4 <| aj z4 <| aj n4 <| aj u5 <| aj a5 <| aj s5 <| aj z5 <| aj i5 <| aj u6 <| aj a6 <| aj s6 <| aj z6 <| aj i6 <| aj u38 <| aj a38 <| aj s38 <| aj z38 <| aj q38 <| aj i38 <| aj n38 <| aj u40 <| aj a40 <| aj s40 <| aj z40 <| aj q40 <| aj n40 <| aj u71 <| aj a71 <| aj s71 <| aj z71 <| aj q71 <| aj n71 <| aj a96 <| aj s96 <| aj z96 <| aj i96 <| aj n96 <| aj p96 <| aj ff96 <| d96
theorem fo {h0 : Hp} (ok : h0.t.Sized h0.n) {m N : Nat} {p : Value} {l : List Int} {R Q : Nat -> List Int} (t : TabAt h0 m p N l R Q) {v : Int} : aZ xa 98 [p, .int .i64 v] h0 (.bool (decide (0 <= v /\ v < N))) := by
 have S := Si ok
 refine ae (n := 13) (rs := [.tmp 4]) rfl Tryz.e98 rfl rfl rfl (lbt rfl) ?_
 by_cases c : 0 <= v
 . simp only [BS, LB, Nat.reduceLT, Nat.reduceEqDiff, c]
   refine aq (lV S.ok (t.gr S.gr)) ?_; intro h g; replace S := S.call g; clear g
   simp only [BS, LB, ac, Nat.reduceLT, Nat.reduceEqDiff]
   exact S.gr
 . simp only [BS, LB, ac, Nat.reduceLT, Nat.reduceEqDiff, c]
   exact ⟨by simp, S.gr⟩
theorem wayTo_ok {h0 : Hp} (ok : h0.t.Sized h0.n) {m N : Nat} {p : Value} {l : List Int} {R Q : Nat -> List Int} (t : TabAt h0 m p N l R Q) (hW : ∀ i, i < l.length -> (R i).length = N) {i v w : Int} :
 aZ xa 103 [.func (.func 25) #[p] #[], .func (.func 104) #[] #[], .int .i64 i, .int .i64 v, .int .i64 w] h0 (.int .i64 (lowD (fF N l.length R i v) (fF N l.length R i w))) := by
 have S := Si ok
 refine ae (n := 21) (rs := [.tmp 10]) rfl Tryz.e103 rfl rfl rfl (lbt rfl) ?_
 simp only [BS, LB, Nat.reduceLT, Nat.reduceEqDiff]
 refine aq (sH S.ok (t.gr S.gr) hW) ?_; intro h g; replace S := S.call g; clear g
 simp only [BS, LB, Nat.reduceLT, Nat.reduceEqDiff]
 refine aq (sH S.ok (t.gr S.gr) hW) ?_; intro h g; replace S := S.call g; clear g
 simp only [BS, LB, Nat.reduceLT, Nat.reduceEqDiff]
 refine aq (low_ok S.ok) ?_; intro h g; replace S := S.call g; clear g
 simp only [BS, LB, ac, Nat.reduceLT, Nat.reduceEqDiff]
 exact S.gr
theorem wayFr_ok {h0 : Hp} (ok : h0.t.Sized h0.n) {m N : Nat} {p : Value} {l : List Int} {R Q : Nat -> List Int} (t : TabAt h0 m p N l R Q) (hW : ∀ i, i < l.length -> (Q i).length = N) {i v w : Int} :
 aZ xa 103 [.func (.func 105) #[p] #[], .func (.func 106) #[] #[], .int .i64 i, .int .i64 v, .int .i64 w] h0 (.int .i64 (lowD (fF N l.length Q i w) (fF N l.length Q i v))) := by
 have S := Si ok
 refine ae (n := 21) (rs := [.tmp 10]) rfl Tryz.e103 rfl rfl rfl (lbt rfl) ?_
 simp only [BS, LB, Nat.reduceLT, Nat.reduceEqDiff]
 refine aq (qw S.ok (t.gr S.gr) hW) ?_; intro h g; replace S := S.call g; clear g
 simp only [BS, LB, Nat.reduceLT, Nat.reduceEqDiff]
 refine aq (qw S.ok (t.gr S.gr) hW) ?_; intro h g; replace S := S.call g; clear g
 simp only [BS, LB, Nat.reduceLT, Nat.reduceEqDiff]
 refine aq (lift_ok S.ok) ?_; intro h g; replace S := S.call g; clear g
 simp only [BS, LB, ac, Nat.reduceLT, Nat.reduceEqDiff]
 exact S.gr
def jY (N n : Nat) (R Q : Nat -> List Int) (i v w : Int) : Int := if (0 <= v /\ v < N) /\ (0 <= w /\ w < N) /\ 0 <= i /\ i < n then max (lowD (fF N n R i v) (fF N n R i w)) (lowD (fF N n Q i w) (fF N n Q i v)) else 0
theorem qO {h0 : Hp} (ok : h0.t.Sized h0.n) {m N : Nat} {p : Value} {l : List Int} {R Q : Nat -> List Int} (t : TabAt h0 m p N l R Q) (hR : ∀ i, i < l.length -> (R i).length = N) (hQ : ∀ i, i < l.length -> (Q i).length = N) (hl : l.length < 1000) {i v w : Int} :
 aZ xa 50 [p, .int .i64 i, .int .i64 v, .int .i64 w] h0 (.int .i64 (jY N l.length R Q i v w)) := by
 have S := Si ok
 by_cases c1 : 0 <= v /\ v < N
 . by_cases c2 : 0 <= w /\ w < N
   . by_cases c3 : i < 0
     . rw [show jY N l.length R Q i v w = 0 from if_neg (by omega)]
       refine ae (n := 43) (rs := [.tmp 8]) rfl xO rfl rfl rfl (lbt rfl) ?_
       simp only [BS, LB, Nat.reduceLT, Nat.reduceEqDiff]
       refine aq (fo S.ok (t.gr S.gr)) ?_; intro h g; replace S := S.call g; clear g
       simp only [BS, LB, Nat.reduceLT, Nat.reduceEqDiff, c1]
       refine aq (fo S.ok (t.gr S.gr)) ?_; intro h g; replace S := S.call g; clear g
       simp only [BS, LB, ac, Nat.reduceLT, Nat.reduceEqDiff, c2, c3]
       exact S.gr
     . by_cases c4 : (l.length : Int) <= i
       . rw [show jY N l.length R Q i v w = 0 from if_neg (by omega)]
         refine ae (n := 43) (rs := [.tmp 8]) rfl xO rfl rfl rfl (lbt rfl) ?_
         simp only [BS, LB, Nat.reduceLT, Nat.reduceEqDiff]
         refine aq (fo S.ok (t.gr S.gr)) ?_; intro h g; replace S := S.call g; clear g
         simp only [BS, LB, Nat.reduceLT, Nat.reduceEqDiff, c1]
         refine aq (fo S.ok (t.gr S.gr)) ?_; intro h g; replace S := S.call g; clear g
         simp only [BS, LB, Nat.reduceLT, Nat.reduceEqDiff, c2, c3]
         refine step_ret (jP S.ok (t.gr S.gr) hl) ?_; intro v h ⟨g, slM, _⟩; replace S := S.call g; clear g
         simp only [BS, LB, ac, Nat.reduceLT, Nat.reduceEqDiff, Tryz.FFbw150, c4, slM.lenq]
         exact S.gr
       . rw [show jY N l.length R Q i v w = max (lowD (fF N l.length R i v) (fF N l.length R i w)) (lowD (fF N l.length Q i w) (fF N l.length Q i v)) from if_pos ⟨c1, c2, by omega, by omega⟩]
         refine ae (n := 43) (rs := [.tmp 8]) rfl xO rfl rfl rfl (lbt rfl) ?_
         simp only [BS, LB, Nat.reduceLT, Nat.reduceEqDiff]
         refine aq (fo S.ok (t.gr S.gr)) ?_; intro h g; replace S := S.call g; clear g
         simp only [BS, LB, Nat.reduceLT, Nat.reduceEqDiff, c1]
         refine aq (fo S.ok (t.gr S.gr)) ?_; intro h g; replace S := S.call g; clear g
         simp only [BS, LB, Nat.reduceLT, Nat.reduceEqDiff, c2, c3]
         refine step_ret (jP S.ok (t.gr S.gr) hl) ?_; intro v h ⟨g, slM, _⟩; replace S := S.call g; clear g
         simp only [BS, LB, Nat.reduceLT, Nat.reduceEqDiff, Tryz.FFbw150, c4, slM.lenq]
         refine aq (wayTo_ok S.ok (t.gr S.gr) hR) ?_; intro h g; replace S := S.call g; clear g
         simp only [BS, LB, Nat.reduceLT, Nat.reduceEqDiff]
         refine aq (wayFr_ok S.ok (t.gr S.gr) hQ) ?_; intro h g; replace S := S.call g; clear g
         simp only [BS, LB, ac, Nat.reduceLT, Nat.reduceEqDiff]
         exact S.gr
   . rw [show jY N l.length R Q i v w = 0 from if_neg (fun h => c2 h.2.1)]
     refine ae (n := 43) (rs := [.tmp 8]) rfl xO rfl rfl rfl (lbt rfl) ?_
     simp only [BS, LB, Nat.reduceLT, Nat.reduceEqDiff]
     refine aq (fo S.ok (t.gr S.gr)) ?_; intro h g; replace S := S.call g; clear g
     simp only [BS, LB, Nat.reduceLT, Nat.reduceEqDiff, c1]
     refine aq (fo S.ok (t.gr S.gr)) ?_; intro h g; replace S := S.call g; clear g
     simp only [BS, LB, ac, Nat.reduceLT, Nat.reduceEqDiff, c2]
     exact S.gr
 . rw [show jY N l.length R Q i v w = 0 from if_neg (fun h => c1 h.1)]
   refine ae (n := 43) (rs := [.tmp 8]) rfl xO rfl rfl rfl (lbt rfl) ?_
   simp only [BS, LB, Nat.reduceLT, Nat.reduceEqDiff]
   refine aq (fo S.ok (t.gr S.gr)) ?_; intro h g; replace S := S.call g; clear g
   simp only [BS, LB, ac, Nat.reduceLT, Nat.reduceEqDiff, c1]
   exact S.gr
def kJ (N n : Nat) (R Q : Nat -> List Int) (v w : Int) (l : List Int) : Int := l.foldl (fun b i => max b (jY N n R Q i v w)) 0
theorem bBest_ok {h0 : Hp} (ok : h0.t.Sized h0.n) {m N : Nat} {p : Value} {l : List Int} {R Q : Nat -> List Int} (t : TabAt h0 m p N l R Q) (hR : ∀ i, i < l.length -> (R i).length = N) (hQ : ∀ i, i < l.length -> (Q i).length = N) (hl : l.length < 1000) {va : Value} {act : List Int} (ha : ax h0 1 (encI .i64) va act) (hal : act.length < 1000) {v w : Int} :
 aZ xa 19 [p, va, .int .i64 v, .int .i64 w] h0 (.int .i64 (kJ N l.length R Q v w act)) := by
 have S := Si ok
 refine ae (n := 26) (rs := [.tmp 8]) rfl Tryz.e19 rfl rfl rfl (lbt rfl) ?_
 simp only [BS, LB, Nat.reduceLT, Nat.reduceEqDiff, Tryz.FFbw119, ha.lenq]
 refine bg (fun (k : Nat) ρ h => k <= act.length /\ Gr h0 h /\ ρ 0 = p /\ ρ 2 = .int .i64 v /\ ρ 3 = .int .i64 w /\ ρ 8 = .int .i64 (kJ N l.length R Q v w (act.take k)) /\ ρ 11 = va /\ ρ 12 = .int .i64 act.length /\ ρ 13 = .int .i64 k) (fun k => act.length - k) ?_ 0 _ _ ?_
 . clear S
   intro k ih ρ h ⟨hk, g0, r0, r2, r3, r8, r11, r12, r13⟩
   have wk : ar .i64 ((k : Int) + 1) = ((k + 1 : Nat) : Int) := by rw [wrap64] <;> omega
   by_cases hlt : k < act.length
   . obtain ⟨c, o, hidx, hld⟩ := (ha.gr g0).ix (kd := .i64) (dG .i64) hlt
     simp only [BS, LB, Nat.reduceLT, Nat.reduceEqDiff, Tryz.FFbw119, r0, r2, r3, r8, r11, r12, r13, aJ, hlt, hidx, hld, encI]
     refine aq (qO g0.ok (t.gr g0) hR hQ hl) ?_
     intro h g
     simp only [BS, LB, Nat.reduceLT, Nat.reduceEqDiff, r13, wk]
     refine ih (k + 1) _ _ (by omega) ⟨by omega, g0.trans g, by simp [aa, r0], by simp [aa, r2], by simp [aa, r3], ?_, by simp [aa, r11], by simp [aa, r12], by simp [aa]⟩
     rw [xt hlt]
     unfold kJ
     rw [List.foldl_append]
     simp [aa]
   . simp only [BS, LB, ac, Nat.reduceLT, Nat.reduceEqDiff, r8, r12, r13, aJ, hlt]
     rw [List.take_of_length_le (by omega)]
     exact ⟨rfl, g0⟩
 . exact ⟨xk _, S.gr, by simp [aa, aQ], by simp [aa, aQ, bU], by simp [aa, aQ, bU], by simp [aa, kJ], by simp [aa], by simp [aa], by simp [aa]⟩
end Go.Ab
end
section
namespace Go.Ab
def SlW (h : Hp) (kd : IntKind) (v : Value) (xs : List Int) : Prop := (v = .slice none 0 0 /\ xs = []) \/ ∃ b o c, v = .slice (some ⟨b, o, none⟩) xs.length c /\ xs.length <= c /\ h.load b o (xs.length * 1) = some (xs.flatMap (encI kd))
theorem SlW.sl {h : Hp} {kd : IntKind} {v : Value} {xs : List Int} (s : SlW h kd v xs) : ax h 1 (encI kd) v xs := s.imp (fun h => h) (fun ⟨b, o, c, h1, h2, h3⟩ => ⟨b, o, none, c, h1, h2, h3⟩)
theorem SlW.low {E : Env} {h : Hp} {kd kd' : IntKind} {t e : TypeId} {v : Value} {xs : List Int} (hu : E.und t = some (.slice e)) (hs : E.sz e = some 1) (s : SlW h kd v xs) {n : Nat} (hn : n <= xs.length) :
 ∃ v', dS E t v none (some (.int kd' (n : Int))) none = some v' /\ ax h 1 (encI kd) v' (xs.take n) /\ ∀ c, av v' c -> av v c := by
 have nat : ∀ n : Nat, eV (n : Int) = some n := fun n => rfl
 rcases s with ⟨rfl, rfl⟩ | ⟨b, o, c, rfl, h2, h3⟩
 . have : n = 0 := by simpa using hn
   subst this
   refine ⟨.slice none 0 0, ?_, .inl ⟨rfl, rfl⟩, fun c hc => hc⟩
   simp only [dS, hu, dL, dE, nat, hs]
   rfl
 . refine ⟨.slice (some ⟨b, o, none⟩) n c, ?_, .inr ⟨b, o, none, c, ?_, ?_, ?_⟩, fun c hc => hc⟩
   . simp only [dS, hu, dL, dE, nat, Nat.ble_eq_true_of_le (xh hn h2), cond_true, hs, Option.isSome_none, cond_false, Nat.sub_zero, dJ, xq, Nat.add_zero]
     by_cases hc : c = 0
     . subst hc; rfl
     . rw [show Nat.beq c 0 = false by cases c with | zero => exact absurd rfl hc | succ c => rfl]; rfl
   . rw [xe, xw hn]
   . rw [xe, xw hn]; exact xh hn h2
   . rw [xe, xw hn]
     have := mZ h3 (i := 0) (m := n * 1) (by omega)
     rw [Nat.add_zero, xC] at this
     rw [this]
     congr 1
     refine List.ext_getElem? fun i => ?_
     have e4 : ∀ l : List Int, l.flatMap (encI kd) = l.map fun x => .int kd x := fun l => by
      rw [xn, xI, xn]; rfl
     rw [e4, e4, xl, List.map_take]
end Go.Ab

end
section
namespace Go.Ab
def swJ (l : List Nat) (j : Nat) : List Nat := (l.set j (l.getD (j - 1) 0)).set (j - 1) (l.getD j 0)
def bub (key : Nat -> Int) : Nat -> List Nat -> List Nat
 | 0, l => l
 | j + 1, l => if key (l.getD j 0) < key (l.getD (j + 1) 0) then bub key j (swJ l (j + 1)) else l
def fU (key : Nat -> Int) (k : Nat) (l : List Nat) : List Nat := (xm k).foldl (fun l i => bub key (i + 1) l) l
theorem lK (key : Nat -> Int) (k : Nat) (l : List Nat) : fU key (k + 1) l = bub key (k + 1) (fU key k l) := by
 unfold fU; rw [List.range_succ, List.foldl_append]; rfl
theorem swJ_len (l : List Nat) (j : Nat) : (swJ l j).length = l.length := by simp [swJ]
theorem ti {l : List Nat} {j : Nat} (h : j < l.length) : (swJ l j).Perm l := by
 have : ((l.set j l[j - 1]).set (j - 1) l[j]).Perm l := List.set_set_perm h (by omega)
 unfold swJ
 rwa [show l.getD (j - 1) 0 = l[j - 1] by simp [xb, show j - 1 < l.length by omega], show l.getD j 0 = l[j] by simp [xb, h]]
theorem tN {key : Nat -> Int} : ∀ (j : Nat) {l : List Nat}, j < l.length -> (bub key j l).Perm l
 | 0, l, _ => .refl _
 | j + 1, l, h => by
   unfold bub
   split
   . exact (tN j (by rw [swJ_len]; omega)).trans (ti h)
   . exact .refl _
theorem lS {key : Nat -> Int} {l : List Nat} : ∀ (k : Nat), k < l.length \/ k = 0 -> (fU key k l).Perm l
 | 0, _ => .refl _
 | k + 1, h => by
   have ih := lS (key := key) (l := l) k (by omega)
   rw [lK]
   exact (tN (k + 1) (by rw [ih.length_eq]; omega)).trans ih
end Go.Ab

end
section
namespace Go.Ab
open Go.Proofs
set_option maxRecDepth 10000
open Tryz in
def Tryz.FFa1165 := aj a1 <| aj s1 <| aj z1 <| aj n1 <| aj u2 <| aj a2 <| aj s2 <| aj z2 <| aj i2 <| aj u3 <| aj a3 <| aj s3 <| aj z3 <| aj i3 <| aj u4 <| aj a4 <| aj s4 <| aj z4 <| aj n4 <| aj u5 <| aj a5 <| aj s5 <| aj z5 <| aj i5 <| aj u6 <| aj a6 <| aj s6 <| aj z6 <| aj i6 <| aj u40 <| aj a40 <| aj s40 <| aj z40 <| aj q40 <| aj n40 <| aj a111 <| aj s111 <| aj z111 <| n111
open Tryz in
def Tryz.FFa1101 := aj u3 <| aj a3 <| aj s3 <| aj z3 <| aj i3 <| aj u40 <| aj a40 <| aj s40 <| aj z40 <| aj q40 <| aj n40 <| aj a111 <| aj s111 <| aj z111 <| n111
open Tryz in
def Tryz.FFa138 := aj a1 <| aj s1 <| aj z1 <| aj n1 <| aj u2 <| aj a2 <| aj s2 <| aj z2 <| aj i2 <| aj u3 <| aj a3 <| aj s3 <| aj z3 <| aj i3 <| aj u4 <| aj a4 <| aj s4 <| aj z4 <| aj n4 <| aj u40 <| aj a40 <| aj s40 <| aj z40 <| aj q40 <| n40
open Tryz in
def Tryz.FFa147 := aj a1 <| aj s1 <| aj z1 <| aj n1 <| aj u2 <| aj a2 <| aj s2 <| aj z2 <| aj i2 <| aj u3 <| aj a3 <| aj s3 <| aj z3 <| aj i3 <| aj u40 <| aj a40 <| aj s40 <| aj z40 <| aj q40 <| aj n40 <| aj a111 <| aj s111 <| aj z111 <| n111
def eL (l : List Nat) : List Value := l.map fun (x : Nat) => .int .i64 x
theorem q7 (l : List Nat) : l.flatMap cd = eL l := by
 unfold eL; rw [xn, xI, xn]; rfl
theorem mM (l : List Nat) : (eL l).length = l.length := by simp [eL]
theorem natM_at {l : List Nat} {i : Nat} (h : i < l.length) : (eL l)[i]? = some (.int .i64 (l.getD i 0 : Nat)) := by
 unfold eL; rw [xz, xf h]; simp [xb, h]
theorem tO (l : List Nat) (i x : Nat) : (eL l).set i (.int .i64 (x : Nat)) = eL (l.set i x) := by unfold eL; rw [List.map_set]
theorem tU {a b : Int} : iU a b < 0 ↔ a < b := by
 unfold iU
 split
 . omega
 . split <;> omega
def CmpF (E : Env) (hq : Hp) (g : FuncId) (post : List Value) (N : Nat) (key : Nat -> Int) : Prop := ∀ h, Gr hq h -> ∀ i j, i < N -> j < N -> aZ E g ([.int .i64 (i : Nat), .int .i64 (j : Nat)] ++ post) h (.int .i64 (iU (key j) (key i)))
theorem vH {hq h0 : Hp} (gq : Gr hq h0) {b N : Nat} {xs : List Nat} {g : FuncId} {post : Array Value} {key : Nat -> Int} (row : Row h0 b (eL xs) 1) (hb : hq.n <= b) (hn : xs.length <= 20) (hx : ∀ x ∈ xs, x < N) (hc : CmpF xa hq g post.toList N key) :
 Ret xa 165 [.slice (some ⟨b, 0, some 1⟩) xs.length xs.length, .int .i64 0, .int .i64 (xs.length : Nat), .func (.func g) #[] post] h0 fun _ h' => Mo (· = b) h0 h' /\ Row h' b (eL (fU key (xs.length - 1) xs)) 1 := by
 have ok := gq.ok
 have S := St.init1 ok (o := .row _ 1) row
 have w1 : ar .i64 (0 + 1) = ((0 + 1 : Nat) : Int) := rfl
 refine ae (n := 53) (rs := []) rfl Tryz.e165 rfl rfl rfl (lbt rfl) ?_
 simp only [BS, LB, Nat.reduceLT, Nat.reduceEqDiff, Int.reduceAdd]
 refine bg (fun (i : Nat) ρ h => i <= xs.length - 1 /\ St (· = b) h0 h [(b, .row (eL (fU key i xs)) 1)] [] /\ ρ 0 = .slice (some ⟨b, 0, some 1⟩) xs.length xs.length /\ ρ 1 = .int .i64 0 /\ ρ 2 = .int .i64 (xs.length : Nat) /\ ρ 3 = .func (.func g) #[] post /\ ρ 8 = .int .i64 ((i + 1 : Nat) : Int)) (fun i => xs.length - i) ?_ 0 _ _ ?_
 . clear S
   intro i ih ρ h ⟨hi, S, r0, r1, r2, r3, r8⟩
   by_cases hlt : i + 1 < xs.length
   . simp only [BS, LB, Nat.reduceLT, Nat.reduceEqDiff, r2, r8, aJ, hlt]
     have pmI := lS (key := key) (l := xs) i (.inl (by omega))
     refine bg (fun (j : Nat) ρ h => j <= i + 1 /\ ∃ l, l.Perm xs /\ bub key j l = bub key (i + 1) (fU key i xs) /\ St (· = b) h0 h [(b, .row (eL l) 1)] [] /\ ρ 0 = .slice (some ⟨b, 0, some 1⟩) xs.length xs.length /\ ρ 1 = .int .i64 0 /\ ρ 2 = .int .i64 (xs.length : Nat) /\ ρ 3 = .func (.func g) #[] post /\ ρ 8 = .int .i64 ((i + 1 : Nat) : Int) /\ ρ 9 = .int .i64 (j : Nat)) (fun j => j) ?_ (i + 1) _ _ ?_
     . clear S r0 r1 r2 r3 r8
       intro j ihj ρ h ⟨hj, l, pm, hbub, S, r0, r1, r2, r3, r8, r9⟩
       have ll := pm.length_eq
       have wi : ar .i64 (((i + 1 : Nat) : Int) + 1) = ((i + 1 + 1 : Nat) : Int) := by rw [wrap64] <;> omega
       by_cases hj0 : 0 < j
       . obtain ⟨k, rfl⟩ : ∃ k, j = k + 1 := ⟨j - 1, by omega⟩
         have cj : (0 : Int) < ((k + 1 : Nat) : Int) := by omega
         have wk : ar .i64 (((k + 1 : Nat) : Int) - 1) = (k : Int) := by rw [wrap64] <;> omega
         have k1 : k + 1 < xs.length := by omega
         have k0 : k < xs.length := by omega
         have q1 := (S.row (b := b) m0).load1 (natM_at (i := k + 1) (by omega))
         have q0 := (S.row (b := b) m0).load1 (natM_at (i := k) (by omega))
         have d1 : l.getD (k + 1) 0 < N := by
          refine hx _ (pm.mem_iff.1 ?_)
          rw [xb, xf (by omega)]; exact xL _
         have d0 : l.getD k 0 < N := by
          refine hx _ (pm.mem_iff.1 ?_)
          rw [xb, xf (by omega)]; exact xL _
         simp only [BS]
         refine aC (aI rfl) (q := 0) (ps := []) (by kernel_rfl) ?_
         simp only [BS, LB, cls, Nat.reduceLT, Nat.reduceEqDiff, Nat.reduceAdd, Nat.reducePow, Nat.reduceDiv, Nat.reduceMod, Nat.reduceLeDiff, Tryz.FFa1165, r0, r1, r3, r9, cj, wk, k1, k0, q1, q0]
         refine cI (hc _ (((gq.fr (M := NoM)).trans S.fr (fun c e => .inr (by omega))).gr) _ _ d1 d0) ?_
         intro h g1
         replace S := S.call g1
         by_cases hk : key (l.getD k 0) < key (l.getD (k + 1) 0)
         . have ck : iU (key (l.getD k 0)) (key (l.getD (k + 1) 0)) < 0 := tU.2 hk
           replace q1 := g1.load q1
           replace q0 := g1.load q0
           simp only [BS, LB, cls, Nat.reduceLT, Nat.reduceEqDiff, Nat.reduceAdd, Nat.reducePow, Nat.reduceDiv, Nat.reduceMod, Nat.reduceLeDiff, ck]
           refine aC (aI rfl) (q := 0) (ps := []) (by kernel_rfl) ?_
           simp only [BS, LB, cls, Nat.reduceLT, Nat.reduceEqDiff, Nat.reduceAdd, Nat.reducePow, Nat.reduceDiv, Nat.reduceMod, Nat.reduceLeDiff, Tryz.FFa1165, r0, r9, wk, k1, k0, q1, q0]
           refine du (aE S (i := 0) rfl Tryz.s3 aY (by rw [mM]; omega) ono) ?_
           clear S; rintro h3 ⟨S, mo1⟩
           simp only [LC] at S
           simp only [BS, LB, cls, Nat.reduceLT, Nat.reduceEqDiff, Nat.reduceAdd, Nat.reducePow, Nat.reduceDiv, Nat.reduceMod, Nat.reduceLeDiff, Tryz.FFa1165, k0]
           refine du (aE S (i := 0) rfl Tryz.s3 aY (by rw [List.length_set, mM]; omega) ono) ?_
           clear S; rintro h4 ⟨S, mo2⟩
           simp only [LC] at S
           rw [tO, tO] at S
           simp only [BS, LB, Nat.reduceLT, Nat.reduceEqDiff, Nat.reduceAdd, r9, wk]
           have e : bub key (k + 1) l = bub key k (swJ l (k + 1)) := by
            show (if _ then _ else _) = _
            rw [if_pos hk]
           exact ihj k _ _ (by omega) ⟨by omega, swJ l (k + 1), (ti (by omega)).trans pm, by rw [<- e]; exact hbub, S, by simp [aa, r0], by simp [aa, r1], by simp [aa, r2], by simp [aa, r3], by simp [aa, r8], by simp [aa]⟩
         . have ck : ¬ iU (key (l.getD k 0)) (key (l.getD (k + 1) 0)) < 0 := fun h => hk (tU.1 h)
           have e : bub key (k + 1) l = l := by
            show (if _ then _ else _) = _
            rw [if_neg hk]
           rw [e] at hbub
           simp only [BS, LB, cls, Nat.reduceLT, Nat.reduceEqDiff, Nat.reduceAdd, Nat.reducePow, Nat.reduceDiv, Nat.reduceMod, Nat.reduceLeDiff, r8, ck, wi]
           exact ih (i + 1) _ _ (by omega) ⟨by omega, by rw [lK, <- hbub]; exact S, by simp [aa, r0], by simp [aa, r1], by simp [aa, r2], by simp [aa, r3], by simp [aa]⟩
       . have ej : j = 0 := by omega
         subst ej
         have hb0 : l = bub key (i + 1) (fU key i xs) := hbub
         have cj : ¬ (0 : Int) < ((0 : Nat) : Int) := by omega
         simp only [BS]
         refine aC (aI rfl) (q := 0) (ps := []) (by kernel_rfl) ?_
         simp only [BS, LB, cls, Nat.reduceLT, Nat.reduceEqDiff, Nat.reduceAdd, Nat.reducePow, Nat.reduceDiv, Nat.reduceMod, Nat.reduceLeDiff, Int.reduceLT, xg, r1, r8, r9, wi]
         exact ih (i + 1) _ _ (by omega) ⟨by omega, by rw [lK, <- hb0]; exact S, by simp [aa, r0], by simp [aa, r1], by simp [aa, r2], by simp [aa, r3], by simp [aa]⟩
     . exact ⟨xp _, _, pmI, rfl, S, by simp [aa, r0], by simp [aa, r1], by simp [aa, r2], by simp [aa, r3], by simp [aa, r8], by simp [aa]⟩
   . simp only [BS, LB, Nat.reduceLT, Nat.reduceEqDiff, r2, r8, aJ, hlt]
     have ei : i = xs.length - 1 := by omega
     subst ei
     exact ⟨S.fr, S.row m0⟩
 . exact ⟨xk _, S, by simp [aa, cw], by simp [aa, cw], by simp [aa, cw], by simp [aa, cw], by simp [aa]; rfl⟩
theorem stable_ok {hq h0 : Hp} (gq : Gr hq h0) {b N : Nat} {xs : List Nat} {g : FuncId} {post : Array Value} {key : Nat -> Int} (row : Row h0 b (eL xs) 1) (hb : hq.n <= b) (hn : xs.length < 20) (hx : ∀ x ∈ xs, x < N) (hc : CmpF xa hq g post.toList N key) :
 Ret xa 144 [.slice (some ⟨b, 0, some 1⟩) xs.length xs.length, .int .i64 (xs.length : Nat), .func (.func g) #[] post] h0 fun _ h' => Mo (· = b) h0 h' /\ Row h' b (eL (fU key (xs.length - 1) xs)) 1 := by
 have ok := gq.ok
 have c1 : ¬ (20 : Int) <= (xs.length : Int) := by omega
 have c2 : ¬ (20 : Int) < (xs.length : Int) := by omega
 have S := Si ok
 refine ae (n := 63) (rs := []) rfl Tryz.e144 rfl rfl rfl (lbt rfl) ?_
 simp only [BS, LB, Nat.reduceLT, Nat.reduceEqDiff]
 rw [bS]
 simp only [BS, LB, Nat.reduceLT, Nat.reduceEqDiff, c1]
 refine step_ret (vH gq row hb (by omega) hx hc) ?_
 rintro r h ⟨f, R⟩
 simp only [BS]
 rw [bS]
 simp only [BS, LB, Nat.reduceLT, Nat.reduceEqDiff, c2]
 exact ⟨f, R⟩
theorem rW {hq h0 : Hp} (gq : Gr hq h0) {b N : Nat} {xs : List Nat} {g : FuncId} {post : Array Value} {key : Nat -> Int} (row : Row h0 b (eL xs) 1) (hb : hq.n <= b) (hn : xs.length < 20) (hx : ∀ x ∈ xs, x < N) (hc : CmpF xa hq g post.toList N key) :
 Ret xa 101 [.slice (some ⟨b, 0, some 1⟩) xs.length xs.length, .func (.func g) #[] post] h0 fun _ h' => Mo (· = b) h0 h' /\ Row h' b (eL (fU key (xs.length - 1) xs)) 1 := by
 refine ae (n := 9) (rs := []) rfl Tryz.e101 rfl rfl rfl (lbt rfl) ?_
 simp only [BS, LB, Nat.reduceLT, Nat.reduceEqDiff, Tryz.FFa1101]
 refine step_ret (stable_ok gq row hb hn hx hc) ?_
 rintro r h q
 simp only [BS]
 exact q
theorem sy {h0 : Hp} (ok : h0.t.Sized h0.n) {v : Value} {xs : List Nat} (hs : ax h0 1 cd v xs) (hl : xs.length < 1000000) (hx : xs ≠ []) : Ret xa 38 [v] h0 fun r h' => Gr h0 h' /\ ∃ b, r = .slice (some ⟨b, 0, some 1⟩) xs.length xs.length /\ Row h' b (eL xs) 1 /\ h0.n <= b := by
 have S := Si ok
 rcases hs with ⟨_, rfl⟩ | ⟨b, o, s, c, rfl, h2, h3⟩
 . exact absurd rfl hx
 . refine ae (n := 8) (rs := [.tmp 2]) rfl Tryz.e38 rfl rfl rfl (lbt rfl) ?_
   simp only [BS, LB, Nat.reduceLT, Nat.reduceEqDiff, Tryz.FFa138]
   refine am (bM (by exact xB) (by exact xF) (by decide) (by rfl)) S ?_; clear S; intro h bb S n_bb; simp only [LC, aP, bD, ag, Nat.reduceMul, Nat.reduceAdd, xq, xu, xl, xx] at S
   simp only [BS, LB, Nat.reduceLT, Nat.reduceEqDiff]
   have k0 := S.fr.n
   refine ep (S.cloneW (enc := cd) (ys := xs) xB xF (by decide) Tryz.n40 (.inr ⟨b, o, s, c, rfl, h2, S.old h3 (fun h => h)⟩) gu (by decide) (by omega) (S.row m0)) ?_
   rintro h' v ⟨S', g, sl, hc, w⟩
   obtain ⟨b', rfl, row⟩ := w hx
   simp only [BS, LB, ac, Nat.reduceLT, Nat.reduceEqDiff]
   rw [q7] at row
   exact ⟨S'.gr, b', rfl, row, (hc b' rfl).elim (fun e => by omega) (fun e => xh k0 e)⟩
theorem first_ok {hq h0 : Hp} (gq : Gr hq h0) {N : Nat} {v : Value} {xs : List Nat} {g : FuncId} {post : Array Value} {key : Nat -> Int} (hs : ax h0 1 cd v xs) (hne : xs ≠ []) (hn : xs.length < 20) (hx : ∀ x ∈ xs, x < N) (hc : CmpF xa hq g post.toList N key) {m : Nat} (hm : 1 <= m) :
 Ret xa 47 [v, .int .i64 (m : Nat), .func (.func g) #[] post] h0 fun r h' => Gr h0 h' /\ ax h' 1 cd r ((fU key (xs.length - 1) xs).take (min m xs.length)) /\ ∀ c, av r c -> h0.n <= c := by
 have ok := gq.ok
 have mn : min (m : Int) (xs.length : Int) = ((min m xs.length : Nat) : Int) := by omega
 have pm := lS (key := key) (l := xs) (xs.length - 1) (by cases xs with | nil => exact absurd rfl hne | cons a l => simp)
 have S := Si ok
 refine ae (n := 18) (rs := [.tmp 6]) rfl Tryz.e47 rfl rfl rfl (lbt rfl) ?_
 simp only [BS, LB, Nat.reduceLT, Nat.reduceEqDiff]
 refine step_ret (sy S.ok hs (by omega) hne) ?_
 rintro r h ⟨g1, b, rfl, row, nb⟩
 have hbq : hq.n <= b := xh gq.n nb
 simp only [BS, LB, Nat.reduceLT, Nat.reduceEqDiff]
 refine step_ret (rW (gq.trans g1) row hbq hn hx hc) ?_
 rintro r h2 ⟨f, R⟩
 have sl := sn (kd := .i64) (b := b) (len := xs.length) (n := min m xs.length) xB Tryz.s3 (cap := xs.length) (Nat.min_le_right _ _)
 simp only [BS, LB, ac, Nat.reduceLT, Nat.reduceEqDiff, xG, xH, Tryz.FFa147, mn, sl]
 refine ⟨((g1.fr (M := NoM)).trans f (fun c e => .inr (by omega))).gr, ?_, fun c hc => by have hc : b = c := hc; omega⟩
 have tl : ((fU key (xs.length - 1) xs).take (min m xs.length)).length = min m xs.length := by rw [xe, pm.length_eq]; omega
 refine .inr ⟨b, 0, some 1, xs.length, by rw [tl], by rw [tl]; exact Nat.min_le_right _ _, ?_⟩
 rw [tl, R.load (by rw [mM, pm.length_eq]; omega), q7, xC, xl]
 unfold eL
 rw [List.map_take]
open Tryz in
def Tryz.FFa248 := aj a1 <| aj s1 <| aj z1 <| aj n1 <| aj u2 <| aj a2 <| aj s2 <| aj z2 <| aj i2 <| aj u3 <| aj a3 <| aj s3 <| aj z3 <| aj i3 <| aj u38 <| aj a38 <| aj s38 <| aj z38 <| aj q38 <| aj i38 <| aj n38 <| aj u40 <| aj a40 <| aj s40 <| aj z40 <| aj q40 <| aj n40 <| aj u71 <| aj a71 <| aj s71 <| aj z71 <| aj q71 <| aj n71 <| aj a96 <| aj s96 <| aj z96 <| aj i96 <| aj n96 <| aj p96 <| aj ff96 <| d96
open Tryz in
def Tryz.FFa238 := aj a1 <| aj s1 <| aj z1 <| aj n1 <| aj u2 <| aj a2 <| aj s2 <| aj z2 <| aj i2 <| aj u3 <| aj a3 <| aj s3 <| aj z3 <| aj i3 <| aj u4 <| aj a4 <| aj s4 <| aj z4 <| aj n4 <| aj u40 <| aj a40 <| aj s40 <| aj z40 <| aj q40 <| n40
open Tryz in
def Tryz.FFa2101 := aj u3 <| aj a3 <| aj s3 <| aj z3 <| aj i3 <| aj u40 <| aj a40 <| aj s40 <| aj z40 <| aj q40 <| aj n40 <| aj a111 <| aj s111 <| aj z111 <| n111
open Tryz in
def Tryz.FFa247 := aj a1 <| aj s1 <| aj z1 <| aj n1 <| aj u2 <| aj a2 <| aj s2 <| aj z2 <| aj i2 <| aj u3 <| aj a3 <| aj s3 <| aj z3 <| aj i3 <| aj u40 <| aj a40 <| aj s40 <| aj z40 <| aj q40 <| aj n40 <| aj a111 <| aj s111 <| aj z111 <| n111
open Tryz in
def Tryz.FFa218 := aj a1 <| aj s1 <| aj z1 <| aj n1 <| aj u2 <| aj a2 <| aj s2 <| aj z2 <| aj i2 <| aj u3 <| aj a3 <| aj s3 <| aj z3 <| aj i3 <| aj u4 <| aj a4 <| aj s4 <| aj z4 <| aj n4 <| aj u5 <| aj a5 <| aj s5 <| aj z5 <| aj i5 <| aj u6 <| aj a6 <| aj s6 <| aj z6 <| aj i6 <| aj a7 <| aj s7 <| aj z7 <| aj i7 <| aj n7 <| aj p7 <| aj ff7 <| aj d7 <| aj u38 <| aj a38 <| aj s38 <| aj z38 <| aj q38 <| aj i38 <| aj n38 <| aj u40 <| aj a40 <| aj s40 <| aj z40 <| aj q40 <| aj n40 <| aj u71 <| aj a71 <| aj s71 <| aj z71 <| aj q71 <| aj n71 <| aj a96 <| aj s96 <| aj z96 <| aj i96 <| aj n96 <| aj p96 <| aj ff96 <| aj d96 <| aj a111 <| aj s111 <| aj z111 <| n111
def keyB (N n : Nat) (R Q : Nat -> List Int) (s w : Int) (i : Nat) : Int := jY N n R Q i s w
def actL (N n : Nat) (R Q : Nat -> List Int) (s w most : Int) : List Nat := (fU (keyB N n R Q s w) (n - 1) (xm n)).take (min (max most 1).toNat n)
theorem uY {hq : Hp} {m N : Nat} {p : Value} {l : List Int} {R Q : Nat -> List Int} (t : TabAt hq m p N l R Q) (hR : ∀ i, i < l.length -> (R i).length = N) (hQ : ∀ i, i < l.length -> (Q i).length = N) (hl : l.length < 1000) {s w : Int} {b4 b5 b6 : Nat} (l4 : hq.load b4 0 1 = some [p]) (l5 : hq.load b5 0 1 = some [.int .i64 s]) (l6 : hq.load b6 0 1 = some [.int .i64 w]) :
 CmpF xa hq 48 [ptrTo b4, ptrTo b5, ptrTo b6] l.length (keyB N l.length R Q s w) := by
 intro h g i j hi hj
 have fp : Fl p := by obtain ⟨b, _, _, _, rfl, _⟩ := t.ex; exact eo
 have S := Si g.ok
 have z4 := bC g.ok (g.load l4)
 have z5 := bC g.ok (g.load l5)
 have z6 := bC g.ok (g.load l6)
 refine ae (n := 19) (rs := [.tmp 7]) rfl Tryz.e48 rfl rfl rfl (lbt rfl) ?_
 simp only [BS, LB]
 refine aC (aI rfl) (q := 0) (ps := [(4, 8), (4, 7), (4, 5)]) (by kernel_rfl) ?_
 simp only [BS, LB, cls, Nat.reduceLT, Nat.reduceEqDiff, Nat.reduceAdd, Nat.reducePow, Nat.reduceDiv, Nat.reduceMod, Nat.reduceLeDiff, Tryz.FFa248, g.load l4, g.load l5, g.load l6]
 refine cI (qO S.ok ((t.gr g).gr S.gr) hR hQ hl) ?_
 intro h1 g1
 have v4 := aF g1 z4
 have v5 := aF g1 z5
 have v6 := aF g1 z6
 replace S := S.call g1
 simp only [BS, LB, cls, Nat.reduceLT, Nat.reduceEqDiff, Nat.reduceAdd, Nat.reducePow, Nat.reduceDiv, Nat.reduceMod, Nat.reduceLeDiff, Tryz.FFa248, g1.load (g.load l4), g1.load (g.load l5), g1.load (g.load l6)]
 refine cI (qO S.ok ((t.gr g).gr S.gr) hR hQ hl) ?_
 intro h2 g2
 replace S := S.call g2
 simp only [BS, LB, cls, Nat.reduceLT, Nat.reduceEqDiff, Nat.reduceAdd, Nat.reducePow, Nat.reduceDiv, Nat.reduceMod, Nat.reduceLeDiff]
 refine cI (tY S.ok) ?_
 intro h3 g3
 replace S := S.call g3
 simp only [BS, LB, cls, ac, Nat.reduceLT, Nat.reduceEqDiff, Nat.reduceAdd, Nat.reducePow, Nat.reduceDiv, Nat.reduceMod, Nat.reduceLeDiff]
 refine ⟨by simp only [aW, bw, aR, bE, aT, ne_eq, not_false_eq_true, bH, bR, bG, aV, bW, cM, aO, Nat.reduceLT, Nat.reduceEqDiff, reduceIte, xd, ab, cw, bA v4, bA v5, bA v6], ?_⟩
 exact ⟨rfl, S.gr⟩
theorem insNil_ok {h0 : Hp} (ok : h0.t.Sized h0.n) {v : Value} : aZ xa 165 [.slice none 0 0, .int .i64 0, .int .i64 0, v] h0 (.tuple #[]) := by
 have S := Si ok
 have w1 : ar .i64 1 = 1 := rfl
 have c1 : ¬ (1 : Int) < 0 := by decide
 refine ae (n := 53) (rs := []) rfl Tryz.e165 rfl rfl rfl (lbt rfl) ?_
 simp only [BS, LB, Nat.reduceLT, Nat.reduceEqDiff, Int.reduceAdd, w1]
 rw [bS]
 simp only [BS, LB, ac, Nat.reduceLT, Nat.reduceEqDiff, c1]
 exact S.gr
theorem uz {h0 : Hp} (ok : h0.t.Sized h0.n) {m : Nat} {g : FuncId} {post : Array Value} : aZ xa 47 [.slice none 0 0, .int .i64 (m : Nat), .func (.func g) #[] post] h0 (.slice none 0 0) := by
 have S := Si ok
 have cl : aZ xa 38 [.slice none 0 0] h0 (.slice none 0 0) := by
  refine ae (n := 8) (rs := [.tmp 2]) rfl Tryz.e38 rfl rfl rfl (lbt rfl) ?_
  simp only [BS, LB, ac, Nat.reduceLT, Nat.reduceEqDiff, Tryz.FFa238]
  exact S.gr
 have mn : min (m : Int) 0 = 0 := by omega
 have c1 : ¬ (20 : Int) <= 0 := by decide
 have c2 : ¬ (20 : Int) < 0 := by decide
 have so : ∀ {h : Hp}, h.t.Sized h.n -> aZ xa 101 [.slice none 0 0, .func (.func g) #[] post] h (.tuple #[]) := fun {h} okh => by
  have S := Si okh
  have st : aZ xa 144 [.slice none 0 0, .int .i64 0, .func (.func g) #[] post] h (.tuple #[]) := by
   refine ae (n := 63) (rs := []) rfl Tryz.e144 rfl rfl rfl (lbt rfl) ?_
   simp only [BS, LB, Nat.reduceLT, Nat.reduceEqDiff]
   rw [bS]
   simp only [BS, LB, Nat.reduceLT, Nat.reduceEqDiff, c1]
   refine aq (insNil_ok S.ok) ?_; intro h g; replace S := S.call g; clear g
   simp only [BS]
   rw [bS]
   simp only [BS, LB, ac, Nat.reduceLT, Nat.reduceEqDiff, c2]
   exact S.gr
  refine ae (n := 9) (rs := []) rfl Tryz.e101 rfl rfl rfl (lbt rfl) ?_
  simp only [BS, LB, Nat.reduceLT, Nat.reduceEqDiff, xg, Tryz.FFa2101]
  refine aq st ?_; intro h' g'; replace S := S.call g'
  simp only [BS, LB, ac]
  exact S.gr
 have sl : dS xa 40 (.slice none 0 0) none (some (.int .i64 0)) none = some (.slice none 0 0) := by
  simp only [dS, xB, Tryz.s3, dL, dE]
  rfl
 refine ae (n := 18) (rs := [.tmp 6]) rfl Tryz.e47 rfl rfl rfl (lbt rfl) ?_
 simp only [BS, LB, Nat.reduceLT, Nat.reduceEqDiff]
 refine aq cl ?_; intro h g1; replace S := S.call g1
 simp only [BS, LB, Nat.reduceLT, Nat.reduceEqDiff]
 refine aq (so S.ok) ?_; intro h g1; replace S := S.call g1
 simp only [BS, LB, ac, Nat.reduceLT, Nat.reduceEqDiff, xg, xG, xH, Tryz.FFa247, mn, sl]
 exact S.gr
theorem uL {h0 : Hp} (ok : h0.t.Sized h0.n) {m N : Nat} {p : Value} {l : List Int} {R Q : Nat -> List Int} (t : TabAt h0 m p N l R Q) (hR : ∀ i, i < l.length -> (R i).length = N) (hQ : ∀ i, i < l.length -> (Q i).length = N) (hl : l.length <= 16) {s w most : Int} :
 Ret xa 18 [p, .int .i64 s, .int .i64 w, .int .i64 most] h0 fun r h' => Gr h0 h' /\ ax h' 1 cd r (actL N l.length R Q s w most) /\ ∀ c, av r c -> h0.n <= c := by
 have S := Si ok
 have fp : Fl p := by obtain ⟨b, _, _, _, rfl, _⟩ := t.ex; exact eo
 obtain ⟨mk, hmk⟩ : ∃ k : Nat, max most 1 = (k : Int) := ⟨(max most 1).toNat, by omega⟩
 have hmk' : (max most 1).toNat = mk := by omega
 refine ae (n := 27) (rs := [.tmp 8]) rfl Tryz.e18 rfl rfl rfl (lbt rfl) ?_
 simp only [BS, Nat.reduceLT]
 refine am (cH (by assumption)) S ?_; clear S; intro h b4 S n_b4
 simp only [BS, Nat.reduceLT, Nat.reduceEqDiff, if_false]
 refine am (cH (by exact aY)) S ?_; clear S; intro h b5 S n_b5
 simp only [BS, Nat.reduceLT, Nat.reduceEqDiff, if_false]
 refine am (cH (by exact aY)) S ?_; clear S; intro h b6 S n_b6
 simp only [BS, LB, Nat.reduceLT, Nat.reduceEqDiff, Tryz.FFa218, S.ld (b := b4) (o := 0) m2 rfl]
 have k0 := S.fr.n
 refine step_ret (jP S.ok (t.gr S.gr) (by omega)) ?_
 rintro r h ⟨g, sl, hc⟩
 replace S := S.call g
 simp only [BS, LB, Nat.reduceLT, Nat.reduceEqDiff, Tryz.FFa218, sl.lenq]
 replace S := S.nilG (k := 1)
 refine bg (fun (i : Nat) ρ h => i <= l.length /\ ∃ vR, St NoM h0 h [(b6, .row [.int .i64 w] 1), (b5, .row [.int .i64 s] 1), (b4, .row [p] 1)] [(vR, 1, eL (xm i))] /\ (i = 0 -> vR = .slice none 0 0) /\ ρ 3 = .int .i64 most /\ ρ 4 = ptrTo b4 /\ ρ 5 = ptrTo b5 /\ ρ 6 = ptrTo b6 /\ ρ 9 = vR /\ ρ 13 = .int .i64 (l.length : Nat) /\ ρ 14 = .int .i64 i) (fun i => l.length - i) ?_ 0 _ _ ?_
 . clear S
   intro i ih ρ h ⟨hi, vR, S, hv, r3, r4, r5, r6, r9, r13, r14⟩
   have wi : ar .i64 ((i : Int) + 1) = ((i + 1 : Nat) : Int) := by rw [wrap64] <;> omega
   by_cases hlt : i < l.length
   . simp only [BS, LB, Nat.reduceLT, Nat.reduceEqDiff, r9, r13, r14, aJ, hlt]
     refine am (bM (by exact xB) (by exact xF) (by decide) (by rfl)) S ?_; clear S; intro h bt S n_bt; simp only [LC, aP, bD, ag, Nat.reduceMul, Nat.reduceAdd, xq, xu, xl, xx] at S
     simp only [BS, LB, Nat.reduceLT, Nat.reduceEqDiff]
     have src : aN h 1 (.slice (some ⟨bt, 0, none⟩) 1 1) = some (1, [.int .i64 (i : Nat)]) := by simp only [aN]; rw [S.lds (b := bt) (o := 0) (n := 1 * 1) m0 (lbt rfl)]; rfl
     replace S := S.drop1
     refine ep (S.grow (j := 0) (m := 1) (new := [.int .i64 (i : Nat)]) rfl xB xF (by decide) Tryz.n40 src rfl (by decide) rfl (by rw [mM]; simp; omega)) ?_
     clear S src; rintro h vR' S
     simp only [LC] at S
     have e : eL (xm i) ++ [.int .i64 (i : Nat)] = eL (xm (i + 1)) := by unfold eL; rw [List.range_succ, List.map_append]; rfl
     rw [e] at S
     simp only [BS, LB, Nat.reduceLT, Nat.reduceEqDiff, r14, wi]
     exact ih (i + 1) _ _ (by omega) ⟨by omega, vR', S, fun h => (by omega), by simp [aa, r3], by simp [aa, r4, ab], by simp [aa, r5, ab], by simp [aa, r6, ab], by simp [aa], by simp [aa, r13], by simp [aa]⟩
   . have ei : i = l.length := by omega
     subst ei
     simp only [BS, LB, Nat.reduceLT, Nat.reduceEqDiff, r3, r4, r5, r6, r9, r13, r14, aJ, hlt]
     by_cases hn : l.length = 0
     . have ev := hv hn
       subst ev
       have kS := S.fr.n
       rw [hmk]
       refine aq (uz S.ok) ?_
       intro h' g
       replace S := S.call g
       simp only [BS, LB, ac, Nat.reduceLT, Nat.reduceEqDiff]
       refine ⟨S.gr, .inl ⟨rfl, ?_⟩, fun c hc => hc.elim⟩
       unfold actL
       rw [hn]; simp
     . have sA : ax h 1 cd vR (xm l.length) := (S.gown _ m0).1.sl (q7 _).symm gu (by decide)
       have kS := S.fr.n
       have cf := uY (t.gr S.gr) hR hQ (by omega) (s := s) (w := w) (b4 := b4) (b5 := b5) (b6 := b6) (S.ld m2 rfl) (S.ld m1 rfl) (S.ld m0 rfl)
       rw [hmk]
       refine step_ret (first_ok (N := l.length) (m := mk) (Gr.refl S.ok) sA (by intro e; have := congrArg List.length e; rw [List.length_range] at this; exact hn this) (by simp; omega) (fun x hx => List.mem_range.1 hx) cf (by omega)) ?_
       rintro r h' ⟨g, sl', hc'⟩
       replace S := S.call g
       simp only [BS, LB, ac, Nat.reduceLT, Nat.reduceEqDiff]
       rw [List.length_range] at sl'
       exact ⟨S.gr, by unfold actL; rw [hmk']; exact sl', fun c hc => xh kS (hc' c hc)⟩
 . exact ⟨xk _, _, S, fun _ => rfl, by simp [aa, cw], by simp [aa, ab], by simp [aa, ab], by simp [aa, ab], by simp [aa], by simp [aa], by simp [aa]⟩
open Tryz in
def Tryz.FFb155 := aj a1 <| aj s1 <| aj z1 <| aj n1 <| aj u2 <| aj a2 <| aj s2 <| aj z2 <| aj i2 <| aj u3 <| aj a3 <| aj s3 <| aj z3 <| aj i3 <| aj u4 <| aj a4 <| aj s4 <| aj z4 <| aj n4 <| aj u5 <| aj a5 <| aj s5 <| aj z5 <| aj i5 <| aj u6 <| aj a6 <| aj s6 <| aj z6 <| aj i6 <| aj a7 <| aj s7 <| aj z7 <| aj i7 <| aj n7 <| aj p7 <| aj ff7 <| aj d7 <| aj a37 <| aj s37 <| aj z37 <| aj n37 <| aj u44 <| aj a44 <| aj s44 <| aj z44 <| aj i44 <| aj a117 <| aj s117 <| aj z117 <| aj i117 <| aj n117 <| aj p117 <| aj ff117 <| aj d117 <| aj u173 <| aj a173 <| aj s173 <| aj z173 <| aj q173 <| n173
open Tryz in
def Tryz.FFb154 := aj a1 <| aj s1 <| aj z1 <| aj n1 <| aj u3 <| aj a3 <| aj s3 <| aj z3 <| aj i3 <| aj u4 <| aj a4 <| aj s4 <| aj z4 <| aj n4 <| aj a30 <| aj s30 <| aj z30 <| aj i30 <| aj n30 <| aj p30 <| aj ff30 <| aj d30 <| aj u32 <| aj a32 <| aj s32 <| aj z32 <| aj q32 <| aj i32 <| aj n32 <| aj u146 <| aj a146 <| aj s146 <| aj z146 <| aj q146 <| aj n146 <| aj a148 <| aj s148 <| aj z148 <| aj i148 <| aj n148 <| aj p148 <| aj ff148 <| d148
open Tryz in
def Tryz.FFb156 := aj a1 <| aj s1 <| aj z1 <| aj n1 <| aj u4 <| aj a4 <| aj s4 <| aj z4 <| aj n4 <| aj a30 <| aj s30 <| aj z30 <| aj i30 <| aj n30 <| aj p30 <| aj ff30 <| aj d30 <| aj u32 <| aj a32 <| aj s32 <| aj z32 <| aj q32 <| aj i32 <| aj n32 <| aj u146 <| aj a146 <| aj s146 <| aj z146 <| aj q146 <| aj n146 <| aj a148 <| aj s148 <| aj z148 <| aj i148 <| aj n148 <| aj p148 <| aj ff148 <| d148
open Tryz in
def Tryz.FFb157 := aj a1 <| aj s1 <| aj z1 <| aj n1 <| aj u3 <| aj a3 <| aj s3 <| aj z3 <| aj i3 <| aj u4 <| aj a4 <| aj s4 <| aj z4 <| aj n4 <| aj a30 <| aj s30 <| aj z30 <| aj i30 <| aj n30 <| aj p30 <| aj ff30 <| aj d30 <| aj u32 <| aj a32 <| aj s32 <| aj z32 <| aj q32 <| aj i32 <| aj n32 <| aj u38 <| aj a38 <| aj s38 <| aj z38 <| aj q38 <| aj i38 <| aj n38 <| aj u40 <| aj a40 <| aj s40 <| aj z40 <| aj q40 <| aj n40 <| aj u71 <| aj a71 <| aj s71 <| aj z71 <| aj q71 <| aj n71 <| aj a96 <| aj s96 <| aj z96 <| aj i96 <| aj n96 <| aj p96 <| aj ff96 <| aj d96 <| aj u146 <| aj a146 <| aj s146 <| aj z146 <| aj q146 <| aj n146 <| aj a148 <| aj s148 <| aj z148 <| aj i148 <| aj n148 <| aj p148 <| aj ff148 <| d148
structure Rl where
 g : FuncId
 post : Array Value
 ok : Bool
 code : Int
def encR (r : Rl) : List Value := [.func (.func r.g) #[] r.post, .int .i64 r.code]
theorem encR_len (r : Rl) : (encR r).length = 2 := rfl
def j8 : List Rl -> Int
 | [] => 0
 | r :: l => if r.ok = true then j8 l else r.code
theorem nV {x : Option Tch} : im none x = true := by cases x <;> rfl
theorem uk {rs : List Rl} {i : Nat} (hi : i < rs.length) : j8 (rs.drop i) = if rs[i].ok = true then j8 (rs.drop (i + 1)) else rs[i].code := by
 rw [List.drop_eq_getElem_cons hi]; rfl
theorem ud {h0 : Hp} (ok : h0.t.Sized h0.n) {v : Value} {rs : List Rl} (sl : ax h0 2 encR v rs) (hl : rs.length < 1000) (hp : ∀ i (hi : i < rs.length), (∀ j, j < i -> (rs.getD j ⟨0, #[], false, 0⟩).ok = true) -> ∀ h, Gr h0 h -> aZ xa rs[i].g rs[i].post.toList h (.bool rs[i].ok)) :
 aZ xa 55 [v] h0 (.int .i64 (j8 rs)) := by
 have S := Si ok
 refine ae (n := 18) (rs := [.tmp 2]) rfl Tryz.e55 rfl rfl rfl (lbt rfl) ?_
 simp only [BS, LB, Nat.reduceLT, Nat.reduceEqDiff, Tryz.FFb155, sl.lenq]
 refine bg (fun (i : Nat) ρ h => i <= rs.length /\ St NoM h0 h [] [] /\ j8 rs = j8 (rs.drop i) /\ (∀ j, j < i -> (rs.getD j ⟨0, #[], false, 0⟩).ok = true) /\ ρ 5 = v /\ ρ 6 = .int .i64 (rs.length : Nat) /\ ρ 7 = .int .i64 i) (fun i => rs.length - i) ?_ 0 _ _ ?_
 . clear S
   intro i ih ρ h ⟨hi, S, e, hb, r5, r6, r7⟩
   have w : ar .i64 ((i : Int) + 1) = ((i + 1 : Nat) : Int) := by rw [wrap64] <;> omega
   by_cases hlt : i < rs.length
   . obtain ⟨c, o, x, y⟩ := (sl.gr S.gr).ix (kd := .i64) encR_len hlt
     have hr := hp i hlt hb
     have hi' : rs.getD i ⟨0, #[], false, 0⟩ = rs[i] := by rw [xb, xf hlt]; rfl
     rw [uk hlt] at e
     generalize rs[i] = r at hr y e hi'
     have gr := S.gr
     have Sx := S
     replace S := Si S.ok
     simp only [BS, LB, Nat.reduceLT, Nat.reduceEqDiff, Tryz.FFb155, r5, r6, r7, aJ, hlt, x, y, encR]
     refine am ay S ?_; clear S; intro h b4 S n_b4
     simp only [BS, LB, Nat.reduceLT, Nat.reduceEqDiff]
     refine aB (S.store (i := 0) rfl ?_ ?_ rfl rfl ?_ ono) ?_
     . exact (by exact Tryz.s117)
     . exact (by intro x e; cases e)
     . exact lbt rfl
     clear S; rintro h ⟨S, mo⟩; clear mo; simp only [LC, ag, lay, xi, xj, Nat.reduceAdd] at S
     simp only [BS, LB, Nat.reduceLT, Nat.reduceEqDiff, Tryz.FFb155, S.ld (b := b4) (o := 0) m0 rfl]
     refine aq (hr _ (gr.trans S.gr)) ?_
     intro h' g'
     replace S := S.call g'
     cases hk : r.ok with
     | true =>
       rw [hk, if_pos rfl] at e
       simp only [BS, LB, Nat.reduceLT, Nat.reduceEqDiff, r7, w]
       exact ih (i + 1) _ _ (by omega) ⟨by omega, Sx.call S.gr, e, fun j hj => by
        rcases Nat.lt_or_ge j i with h | h
        . exact hb j h
        . rw [show j = i by omega, hi']; exact hk, by simp [aa, r5], by simp [aa, r6], by simp [aa]⟩
     | false =>
       rw [hk, if_neg Bool.false_ne_true] at e
       simp only [BS, LB, ac, Nat.reduceLT, Nat.reduceEqDiff, Tryz.FFb155, S.ld (b := b4) (o := 1) m0 rfl]
       exact ⟨by rw [e], gr.trans S.gr⟩
   . simp only [BS, LB, ac, Nat.reduceLT, Nat.reduceEqDiff, r6, r7, aJ, hlt]
     have : i = rs.length := by omega
     subst this
     rw [List.drop_length] at e
     exact ⟨by rw [e]; rfl, S.gr⟩
 . exact ⟨xk _, S, rfl, fun j hj => by omega, by simp [aa, aQ], by simp [aa], by simp [aa]⟩
structure TabO (E : Env) (h0 : Hp) (pt : Value) (nd mk : Nat) (gM gN : FuncId) : Prop where
 fl : Fl pt
 marks : ∀ h, Gr h0 h -> Ret E gM [pt] h fun r h' => Gr h h' /\ ∃ l : List Int, ax h' 1 (encI .i64) r l /\ l.length = mk
 nodes : ∀ h, Gr h0 h -> aZ E gN [pt] h (.int .i64 (nd : Nat))
def dQ (N nd mk : Nat) (f t : Int) : Int := if ¬ (0 <= f /\ f < N) then 17 else if ¬ (0 <= t /\ t < N) then 18 else if 0 < mk /\ nd = N then 0 else 19
theorem tA {hq : Hp} {b2 b3 bp : Nat} {γ : Gra} {nb : Nat} (c : bN hq nb (ptrTo bp) γ) {v : Int} (l2 : hq.load b2 0 1 = some [.int .i64 v]) (l3 : hq.load b3 0 1 = some [ptrTo bp]) : ∀ h, Gr hq h -> aZ xa 54 [ptrTo b2, ptrTo b3] h (.bool (decide (0 <= v /\ v < γ.nodes))) := by
 intro h g
 have S := Si g.ok
 have z2 := bC g.ok (g.load l2)
 have z3 := bC g.ok (g.load l3)
 refine ae (n := 11) (rs := [.tmp 2]) rfl Tryz.e54 rfl rfl rfl (lbt rfl) ?_
 simp only [BS]
 refine aC (aI rfl) (q := 0) (ps := [(3, 5)]) (by kernel_rfl) ?_
 by_cases c0 : 0 <= v
 . simp only [BS, LB, cls, Nat.reduceLT, Nat.reduceEqDiff, Nat.reduceAdd, Nat.reducePow, Nat.reduceDiv, Nat.reduceMod, Nat.reduceLeDiff, Tryz.FFb154, g.load l2, g.load l3, c0]
   refine cI (cy S.ok ((c.gr g).gr S.gr)) ?_
   intro h1 g1
   have v2 := aF g1 z2
   have v3 := aF g1 z3
   replace S := S.call g1
   simp only [BS, LB, cls, ac, Nat.reduceLT, Nat.reduceEqDiff, Nat.reduceAdd, Nat.reducePow, Nat.reduceDiv, Nat.reduceMod, Nat.reduceLeDiff]
   refine ⟨by simp only [aW, bw, aR, bE, aT, ne_eq, not_false_eq_true, bH, bR, aV, jn, bW, cM, aO, Nat.reduceLT, Nat.reduceEqDiff, reduceIte, ab, cw, lH, nV, xd, aU v2, bA v2, aU v3, bA v3], S.gr⟩
 . simp only [BS, LB, cls, ac, Nat.reduceLT, Nat.reduceEqDiff, Nat.reduceAdd, Nat.reducePow, Nat.reduceDiv, Nat.reduceMod, Nat.reduceLeDiff, Tryz.FFb154, g.load l2, g.load l3, c0]
   refine ⟨by simp only [aW, bw, aR, bE, aT, ne_eq, not_false_eq_true, bH, bR, aV, jn, bW, cM, aO, Nat.reduceLT, Nat.reduceEqDiff, reduceIte, ab, cw, lH, nV, xd], by simp [c0], S.gr⟩
theorem node_ok {h0 : Hp} (ok : h0.t.Sized h0.n) {b3 : Nat} {v : Int} : Ret xa 53 [.int .i64 v, ptrTo b3] h0 fun r h' => Gr h0 h' /\ ∃ b2, r = .func (.func 54) #[] #[ptrTo b2, ptrTo b3] /\ h'.load b2 0 1 = some [.int .i64 v] := by
 have S := Si ok
 refine ae (n := 5) (rs := [.tmp 3]) rfl Tryz.e53 rfl rfl rfl (lbt rfl) ?_
 simp only [BS, Nat.reduceLT]
 refine am (cH (by exact aY)) S ?_; clear S; intro h b2 S n_b2
 simp only [BS, LB, ac, Nat.reduceLT, Nat.reduceEqDiff]
 exact ⟨S.gr, b2, rfl, S.ld m0 rfl⟩
def isP : Value -> Bool
 | .pointer none => false
 | _ => true
theorem net2_ok {hq : Hp} {b3 : Nat} {p : Value} (hp : (∃ b, p = ptrTo b) \/ p = .pointer none) (l3 : hq.load b3 0 1 = some [p]) : ∀ h, Gr hq h -> aZ xa 56 [ptrTo b3] h (.bool (isP p)) := by
 intro h g
 have S := Si g.ok
 refine ae (n := 4) (rs := [.tmp 1]) rfl Tryz.e56 rfl rfl rfl (lbt rfl) ?_
 rcases hp with ⟨bp, rfl⟩ | rfl
 . simp only [BS, LB, ac, Nat.reduceLT, Nat.reduceEqDiff, Tryz.FFb156, g.load l3]
   exact ⟨rfl, S.gr⟩
 . simp only [BS, LB, ac, Nat.reduceLT, Nat.reduceEqDiff, Tryz.FFb156, g.load l3]
   exact ⟨rfl, S.gr⟩
theorem tab3_ok {hq : Hp} {b3 b4 bp nd mk : Nat} {pt : Value} {γ : Gra} {nb : Nat} (c : bN hq nb (ptrTo bp) γ) (T : TabO xa hq pt nd mk 46 58) (l4 : hq.load b4 0 1 = some [pt]) (l3 : hq.load b3 0 1 = some [ptrTo bp]) : ∀ h, Gr hq h -> aZ xa 57 [ptrTo b4, ptrTo b3] h (.bool (decide (0 < mk /\ nd = γ.nodes))) := by
 intro h g
 have fp := T.fl
 have S := Si g.ok
 have z4 := bC g.ok (g.load l4)
 have z3 := bC g.ok (g.load l3)
 refine ae (n := 14) (rs := [.tmp 2]) rfl Tryz.e57 rfl rfl rfl (lbt rfl) ?_
 simp only [BS]
 refine aC (aI rfl) (q := 0) (ps := [(6, 7)]) (by kernel_rfl) ?_
 simp only [BS, LB, cls, Nat.reduceLT, Nat.reduceEqDiff, Nat.reducePow, Nat.reduceDiv, Nat.reduceMod, Nat.reduceLeDiff, Tryz.FFb157, g.load l4, g.load l3]
 refine dl (T.marks _ (g.trans S.gr)) ?_
 rintro r h1 ⟨g1, l, sl, el⟩
 replace S := S.call g1
 have v4 := aF g1 z4
 have v3 := aF g1 z3
 by_cases hm : 0 < mk
 . have c0 : (0 : Int) < (l.length : Int) := by omega
   simp only [BS, LB, cls, Nat.reduceLT, Nat.reduceEqDiff, Nat.reduceAdd, Nat.reducePow, Nat.reduceDiv, Nat.reduceMod, Nat.reduceLeDiff, Tryz.FFb157, sl.lenq, c0, g1.load (g.load l4), g1.load (g.load l3)]
   refine cI (T.nodes _ (g.trans S.gr)) ?_
   intro h2 g2
   have k4 := aF g2 (xc z4 g1.n)
   have k3 := aF g2 (xc z3 g1.n)
   replace S := S.call g2
   simp only [BS, LB, cls, Nat.reduceLT, Nat.reduceEqDiff, Nat.reduceAdd, Nat.reducePow, Nat.reduceDiv, Nat.reduceMod, Nat.reduceLeDiff, Tryz.FFb157, g2.load (g1.load (g.load l3))]
   refine cI (cy S.ok ((c.gr g).gr S.gr)) ?_
   intro h3 g3
   have q4 := aF g3 (xc z4 (g1.trans g2).n)
   have q3 := aF g3 (xc z3 (g1.trans g2).n)
   replace S := S.call g3
   simp only [BS, LB, cls, ac, Nat.reduceLT, Nat.reduceEqDiff, Nat.reduceAdd, Nat.reducePow, Nat.reduceDiv, Nat.reduceMod, Nat.reduceLeDiff]
   refine ⟨by simp only [aW, bw, aR, bE, aT, ne_eq, not_false_eq_true, bH, bR, bG, aV, bW, cM, aO, Nat.reduceLT, Nat.reduceEqDiff, reduceIte, xd, ab, cw, aU v3, bA v3, aU v4, bA v4, aU k3, bA k3, aU k4, bA k4, aU q3, bA q3, aU q4, bA q4], ?_⟩
   exact ⟨by simp [hm, Int.ofNat_inj], S.gr⟩
 . have c0 : ¬ (0 : Int) < (l.length : Int) := by omega
   simp only [BS, LB, cls, ac, Nat.reduceLT, Nat.reduceEqDiff, Nat.reduceAdd, Nat.reducePow, Nat.reduceDiv, Nat.reduceMod, Nat.reduceLeDiff, Tryz.FFb157, sl.lenq, c0]
   refine ⟨by simp only [aW, bw, aR, bE, aT, ne_eq, not_false_eq_true, Nat.reduceEqDiff, lH, nV, xd], by simp [hm], S.gr⟩
open Tryz in
def Tryz.FFb2143 := aj a1 <| aj s1 <| aj z1 <| aj n1 <| aj u2 <| aj a2 <| aj s2 <| aj z2 <| aj i2 <| aj u3 <| aj a3 <| aj s3 <| aj z3 <| aj i3 <| aj u4 <| aj a4 <| aj s4 <| aj z4 <| aj n4 <| aj u38 <| aj a38 <| aj s38 <| aj z38 <| aj q38 <| aj i38 <| aj n38 <| aj u40 <| aj a40 <| aj s40 <| aj z40 <| aj q40 <| aj n40 <| aj u71 <| aj a71 <| aj s71 <| aj z71 <| aj q71 <| aj n71 <| aj a96 <| aj s96 <| aj z96 <| aj i96 <| aj n96 <| aj p96 <| aj ff96 <| aj d96 <| aj a126 <| aj s126 <| aj z126 <| aj n126 <| aj a169 <| aj s169 <| aj z169 <| n169
open Tryz in
def Tryz.FFb2100 := aj a1 <| aj s1 <| aj z1 <| aj n1 <| aj u2 <| aj a2 <| aj s2 <| aj z2 <| aj i2 <| aj u3 <| aj a3 <| aj s3 <| aj z3 <| aj i3 <| aj u38 <| aj a38 <| aj s38 <| aj z38 <| aj q38 <| aj i38 <| aj n38 <| aj u40 <| aj a40 <| aj s40 <| aj z40 <| aj q40 <| aj n40 <| aj u71 <| aj a71 <| aj s71 <| aj z71 <| aj q71 <| aj n71 <| aj a96 <| aj s96 <| aj z96 <| aj i96 <| aj n96 <| aj p96 <| aj ff96 <| d96
open Tryz in
def Tryz.FFb244 := aj a1 <| aj s1 <| aj z1 <| aj n1 <| aj u2 <| aj a2 <| aj s2 <| aj z2 <| aj i2 <| aj u3 <| aj a3 <| aj s3 <| aj z3 <| aj i3 <| aj u4 <| aj a4 <| aj s4 <| aj z4 <| aj n4 <| aj u5 <| aj a5 <| aj s5 <| aj z5 <| aj i5 <| aj u6 <| aj a6 <| aj s6 <| aj z6 <| aj i6 <| aj u9 <| aj a9 <| aj s9 <| aj z9 <| aj n9 <| aj u15 <| aj a15 <| aj s15 <| aj z15 <| aj q15 <| aj i15 <| aj n15 <| aj u17 <| aj a17 <| aj s17 <| aj z17 <| aj q17 <| aj i17 <| aj n17 <| aj u25 <| aj a25 <| aj s25 <| aj z25 <| aj q25 <| aj n25 <| aj u38 <| aj a38 <| aj s38 <| aj z38 <| aj q38 <| aj i38 <| aj n38 <| aj u40 <| aj a40 <| aj s40 <| aj z40 <| aj q40 <| aj n40 <| aj u71 <| aj a71 <| aj s71 <| aj z71 <| aj q71 <| aj n71 <| aj a96 <| aj s96 <| aj z96 <| aj i96 <| aj n96 <| aj p96 <| aj ff96 <| aj d96 <| aj a167 <| aj s167 <| aj z167 <| aj n167 <| aj a169 <| aj s169 <| aj z169 <| aj n169 <| aj a274 <| aj s274 <| aj z274 <| aj i274 <| aj n274 <| aj p274 <| aj ff274 <| d274
theorem eJ.keep {h h' : Hp} {m n : Nat} {v : Value} {R : Nat -> List Int} (ok : h.t.Sized h.n) (g : fL h h') (r : eJ h m v n R) : eJ h' m v n R := by
 obtain ⟨ws, a, b, c, d⟩ := r
 exact ⟨ws, a.keep ok g, b, c, fun i w hw => ⟨(d i w hw).1.keep ok g, (d i w hw).2⟩⟩
theorem TabAt.keep {h h' : Hp} {m N : Nat} {p : Value} {l : List Int} {R Q : Nat -> List Int} (ok : h.t.Sized h.n) (g : fL h h') (t : TabAt h m p N l R Q) : TabAt h' m p N l R Q := by
 obtain ⟨b, vM, vT, vF, e, h1, h2, h3, h4, h5, h6⟩ := t.ex
 exact ⟨b, vM, vT, vF, e, g.row ok h1, h2.keep ok g, h3.keep ok g, h4.keep ok g, h5, h6⟩
theorem each_ok {h0 : Hp} (ok : h0.t.Sized h0.n) {pt ve : Value} (f1 : Fl pt) (f2 : Fl ve) : Ret xa 99 [pt, ve] h0 fun v h' => Gr h0 h' /\ ∃ b1 b2, v = .func (.func 143) #[] #[ptrTo b1, ptrTo b2] /\ h0.n <= b1 /\ h0.n <= b2 /\ h'.load b1 0 1 = some [pt] /\ h'.load b2 0 1 = some [ve] := by
 have S := Si ok
 refine ae (n := 6) (rs := [.tmp 4]) rfl Tryz.e99 rfl rfl rfl (lbt rfl) ?_
 simp only [BS, Nat.reduceLT]
 refine am (cH (by assumption)) S ?_; clear S; intro h b1 S n_b1
 simp only [BS, Nat.reduceLT, Nat.reduceEqDiff, if_false]
 refine am (cH (by assumption)) S ?_; clear S; intro h b2 S n_b2
 simp only [BS, LB, ac, Nat.reduceLT, Nat.reduceEqDiff]
 exact ⟨S.gr, b1, b2, rfl, n_b1, n_b2, S.ld m1 rfl, S.ld m0 rfl⟩
def TellF (E : Env) (hq : Hp) (g : FuncId) (post : List Value) (N : Nat) (f : Nat -> Int) : Prop := ∀ h, h.t.Sized h.n -> fL hq h -> ∀ v, v < N -> aZ E g ([.int .i64 (v : Nat)] ++ post) h (.int .i64 (f v))
theorem each_it {hq h0 : Hp} (okq : hq.t.Sized hq.n) (ok0 : h0.t.Sized h0.n) (kq : fL hq h0) (nq : hq.n <= h0.n) {m N : Nat} {pt : Value} {l : List Int} {R Q : Nat -> List Int} (t : TabAt hq m pt N l R Q) (hN : N <= 1000) {b1 b2 : Nat} {g : FuncId} {post : Array Value} {f : Nat -> Int} (hf : TellF xa hq g post.toList N f)
 (e1 : h0.load b1 0 1 = some [pt]) (e2 : h0.load b2 0 1 = some [.func (.func g) #[] post]) :
 IterN xa 143 [] [ptrTo b1, ptrTo b2] h0 (fun c => c = b1 \/ c = b2 \/ c < hq.n) ((xm N).map fun (v : Nat) => [.int .i64 (f v)]) := by
 intro lb J Z hz Y h F s hj
 have l1 := s.load ok0 e1 (.inl rfl)
 have fp : Fl pt := by obtain ⟨b, _, _, _, rfl, _⟩ := t.ex; exact eo
 refine enter (n := 17) (rs := []) rfl Tryz.e143 rfl rfl rfl (lbt rfl) ?_
 simp only [BS, LB, Nat.reduceLT, Tryz.FFb2143, l1]
 refine aq (lV s.ok (t.keep okq (s.keep kq nq (fun c hc => .inr (.inr hc))))) ?_
 intro h' g1
 have sA := s.gr g1
 have jA := Y.gr _ _ _ _ hj g1
 simp only [BS]
 refine bg (fun (i : Nat) ρ h => i <= N /\ ∃ F, ItS h0 (fun c => c = b1 \/ c = b2 \/ c < hq.n) h F /\ J i h F /\ ρ 0 = .func (.yield lb) #[] #[] /\ ρ 1 = ptrTo b1 /\ ρ 2 = ptrTo b2 /\ ρ 6 = .int .i64 (N : Nat) /\ ρ 7 = .int .i64 i) (fun i => N - i) ?_ 0 _ _ ?_
 . clear l1 s hj sA jA F g1 h
   intro i ih ρ h ⟨hi, F, s, hj, r0, r1, r2, r6, r7⟩
   have w : ar .i64 ((i : Int) + 1) = ((i + 1 : Nat) : Int) := by rw [wrap64] <;> omega
   by_cases hlt : i < N
   . have l2 := s.load ok0 e2 (.inr (.inl rfl))
     have hx : ((xm N).map fun (v : Nat) => [Value.int .i64 (f v)])[i]? = some [.int .i64 (f i)] := by rw [xz, xQ hlt]; rfl
     simp only [BS, LB, Nat.reduceLT, Nat.reduceEqDiff, Tryz.FFb2143, r0, r2, r6, r7, aJ, hlt, l2]
     refine aq (hf _ s.ok (s.keep kq nq (fun c hc => .inr (.inr hc))) i hlt) ?_
     intro h2 g2
     simp only [BS, LB, Nat.reduceLT, Nat.reduceEqDiff]
     refine ew Y (s.gr g2) (Y.gr _ _ _ _ hj g2) (i := i) hx ?_ ?_ ?_
     . intro h3 F3 a s3 _ _
       simp only [BS, LB, Nat.reduceLT, Nat.reduceEqDiff, r7, w]
       exact ih (i + 1) _ _ (by omega) ⟨by omega, F3, s3, a, by simp [aa, r0], by simp [aa, r1, ab], by simp [aa, r2, ab], by simp [aa, r6], by simp [aa]⟩
     . intro h3 a _
       simp only [BS, LB, Nat.reduceLT, Nat.reduceEqDiff]
       exact iD rfl ⟨rfl, .inr (.inl ⟨_, rfl, a⟩)⟩
     . intro v h3 a
       exact absurd a (hz v h3)
   . simp only [BS, LB, Nat.reduceLT, r6, r7, aJ, hlt]
     have : i = N := by omega
     subst this
     exact dp (dk ⟨rfl, _, rfl, rfl, .inl ⟨_, F, rfl, by simpa using hj⟩⟩)
 . exact ⟨xk _, F, sA, jA, by simp [aa, cw], by simp [aa, cw, ab], by simp [aa, cw, ab], by simp [aa], by simp [aa]⟩
theorem pi1_ok {hq : Hp} {m N : Nat} {p : Value} {l : List Int} {R Q : Nat -> List Int} (okq : hq.t.Sized hq.n) (t : TabAt hq m p N l R Q) (hR : ∀ i, i < l.length -> (R i).length = N) (hQ : ∀ i, i < l.length -> (Q i).length = N) (hl : l.length < 1000) {va : Value} {act : List Int} (ha : ax hq 1 (encI .i64) va act) (hal : act.length < 1000) {w : Int} {b3 b4 b5 : Nat} (l3 : hq.load b3 0 1 = some [p]) (l4 : hq.load b4 0 1 = some [va]) (l5 : hq.load b5 0 1 = some [.int .i64 w]) :
 TellF xa hq 100 [ptrTo b3, ptrTo b4, ptrTo b5] N (fun v => kJ N l.length R Q v w act) := by
 intro h ok k v hv
 have fp : Fl p := by obtain ⟨b, _, _, _, rfl, _⟩ := t.ex; exact eo
 have fa := ha.fl
 have S := Si ok
 refine ae (n := 11) (rs := [.tmp 5]) rfl Tryz.e100 rfl rfl rfl (lbt rfl) ?_
 simp only [BS, LB, Nat.reduceLT, Nat.reduceEqDiff, Tryz.FFb2100, k.load okq l3, k.load okq l4, k.load okq l5]
 refine aq (bBest_ok S.ok (t.keep okq k) hR hQ hl (ha.keep okq k) hal) ?_
 intro h1 g1
 replace S := S.call g1
 simp only [BS, LB, ac, Nat.reduceLT, Nat.reduceEqDiff]
 exact S.gr
theorem bPi_ok {h0 : Hp} (ok : h0.t.Sized h0.n) {m N : Nat} {p : Value} {l : List Int} {R Q : Nat -> List Int} (t : TabAt h0 m p N l R Q) (hR : ∀ i, i < l.length -> (R i).length = N) (hQ : ∀ i, i < l.length -> (Q i).length = N) (hl : l.length < 1000) (hN : N <= 1000) {va : Value} {act : List Int} (ha : ax h0 1 (encI .i64) va act) (hal : act.length < 1000) {w : Nat} (hw : w < N) :
 Ret xa 44 [p, va, .int .i64 (w : Nat)] h0 fun r h' => Gr h0 h' /\ ax h' 1 (encI .i64) r ((xm N).map fun (v : Nat) => kJ N l.length R Q v w act) /\ ∀ c, av r c -> h0.n <= c := by
 have fp : Fl p := by obtain ⟨b, _, _, _, rfl, _⟩ := t.ex; exact eo
 have fa := ha.fl
 have S := Si ok
 have c0 : 0 <= (w : Int) /\ (w : Int) < (N : Int) := by omega
 refine ae (n := 21) (rs := [.cell 6 25]) rfl Tryz.e44 rfl rfl rfl (lbt rfl) ?_
 simp only [BS, Nat.reduceLT]
 refine am (cH (by assumption)) S ?_; clear S; intro h b3 S n_b3
 simp only [BS, Nat.reduceLT, Nat.reduceEqDiff, if_false]
 refine am (cH (by assumption)) S ?_; clear S; intro h b4 S n_b4
 simp only [BS, Nat.reduceLT, Nat.reduceEqDiff, if_false]
 refine am (cH (by exact aY)) S ?_; clear S; intro h b5 S n_b5
 have gq := S.gr
 have l3 := S.ld (b := b3) (o := 0) m2 rfl
 have l4 := S.ld (b := b4) (o := 0) m1 rfl
 have l5 := S.ld (b := b5) (o := 0) m0 rfl
 have okq := S.ok
 clear S
 rename Hp => hq
 have S := Si okq
 simp only [BS, Tryz.FFb244]
 refine am ay S ?_; clear S; intro h b6 S n_b6
 simp only [BS, LB, Nat.reduceLT, Nat.reduceEqDiff, Tryz.FFb244, S.old l3 (fun h => h), S.old l5 (fun h => h)]
 refine aq (fo S.ok ((t.gr gq).gr S.gr)) ?_
 intro h g; replace S := S.call g; clear g
 have dc : decide (0 <= (w : Int) /\ (w : Int) < (N : Int)) = true := decide_eq_true c0
 simp only [BS, LB, Nat.reduceLT, Nat.reduceEqDiff, Tryz.FFb244, dc, S.old l3 (fun h => h)]
 have tf := pi1_ok okq (t.gr gq) hR hQ hl (ha.gr gq) hal l3 l4 l5
 have l6a := (S.row (b := b6) m0).lt S.ok
 refine step_ret (each_ok S.ok fp jd) ?_
 rintro r h ⟨g, b1, b2, rfl, n1, n2, y1, y2⟩
 replace S := S.call g; clear g
 have it := each_it okq S.ok S.gr.keep S.fr.n (t.gr gq) hN tf y1 y2
 have kn := S.fr.n
 have kG := gq.n
 have z1 := bC S.ok y1
 have z2 := bC S.ok y2
 rename Hp => hE
 have S1 := S
 have okE := S.ok
 have l6 := (S.row (b := b6) m0).lt okE
 simp only [BS]
 replace S := S.base
 replace S := S.nilG (k := 1)
 generalize hxs : ((xm N).map fun (v : Nat) => kJ N l.length R Q v w act) = xs
 have hlx : xs.length = N := by rw [<- hxs]; simp
 replace it : IterN xa 143 [] [ptrTo b1, ptrTo b2] hE (fun c => c = b1 \/ c = b2 \/ c < hq.n) (xs.map fun x => [.int .i64 x]) := by rw [<- hxs, List.map_map]; exact it
 refine ja S (g := 143) (a := #[]) (b := #[ptrTo b1, ptrTo b2]) (by simp [bW, aa, ab]) rfl rfl ?_
 intro h2 db lb S' hdb hlb g2
 obtain ⟨X, hX, S'⟩ : ∃ X : eX, X = _ /\ St (· ∈ [b6]) hE h2 [(lb, .loop X), (db, .dfr), (b6, .row [.slice none 0 0] 1)] [(.slice none 0 0, 1, [])] := ⟨_, rfl, S'⟩
 have hJ : Yld xa lb (fun k h' F => ∃ (vR : Value), St (· ∈ [b6]) hE h' [(lb, .loop X), (db, .dfr), (b6, .row [vR] 1)] [(vR, 1, ints (xs.take k))] /\ k <= xs.length /\ F = keys [(lb, .loop X), (db, .dfr), (b6, .row [vR] 1)] [(vR, 1, ints (xs.take k))]) (fun _ _ => False) (xs.map fun x => [.int .i64 x]) := by
  refine ⟨?_, ?_, fun _ _ h => h.elim, ?_⟩
  . rintro i h F ⟨vR, S, _, rfl⟩; exact ⟨S.ok, fun b hb => S.key_lt hb⟩
  . rintro i h F h' ⟨vR, S, a, rfl⟩ gg; exact ⟨vR, S.call gg, a, rfl⟩
  . rintro i x hR F hx ⟨vR, S, a, rfl⟩
    have hil : i < xs.length := by
     have := (List.getElem?_eq_some_iff.1 hx).1
     simpa using this
    rw [xz, xf hil] at hx
    cases hx
    have tk : ints (xs.take (i + 1)) = ints (xs.take i) ++ [.int .i64 xs[i]] := by rw [List.take_add_one, xf hil]; exact mW _ _
    have tl : (xs.take i).length <= i := by rw [xe]; omega
    subst hX
    refine jc (S.get m0) (by rw [Tryz.e44]; rfl) rfl ?_
    have S0 := S
    replace S := S.base
    simp only [BS, LB, Nat.reduceLT, Nat.reduceEqDiff]
    refine iw S (i := 0) rfl rfl rfl rfl rfl ?_
    clear S; intro h S
    simp only [LC] at S
    simp only [BS, LB, Nat.reduceLT, Nat.reduceEqDiff, Tryz.FFb244, S.ld (b := b6) (o := 0) m2 rfl]
    refine am (bM (by exact Tryz.u25) (by exact Tryz.e2E) (by decide) (by rfl)) S ?_; clear S; intro h bs S n_bs; simp only [LC, aP, bD, ag, Nat.reduceMul, Nat.reduceAdd, xq, xu, xl, xx] at S
    simp only [BS, LB, Nat.reduceLT, Nat.reduceEqDiff]
    have src : aN h 1 (.slice (some ⟨bs, 0, none⟩) 1 1) = some (1, [.int .i64 xs[i]]) := by simp only [aN]; rw [S.lds (b := bs) (o := 0) (n := 1 * 1) m0 (lbt rfl)]; rfl
    replace S := S.drop1
    refine ep (S.grow (j := 0) (m := 1) (new := [.int .i64 xs[i]]) rfl Tryz.u25 Tryz.e2E (by decide) Tryz.n25 src rfl (by decide) rfl (by rw [dW]; simp; omega)) ?_
    clear S src; rintro h vR' S
    simp only [LC] at S
    have fv : Fl vR' := (S.gown _ m0).1.fl
    simp only [BS, LB, Nat.reduceLT, Nat.reduceEqDiff]
    refine aB (aE S (i := 2) rfl Tryz.s25 fv (xD (lbt rfl)) ono) ?_
    clear S; rintro h ⟨S, _⟩
    simp only [LC] at S
    simp only [BS]
    refine eI S (i := 0) rfl ?_
    clear S; intro h S
    simp only [LC] at S
    rw [<- tk] at S
    exact .inl ⟨rfl, _, ⟨vR', S0.rebase S, by omega, rfl⟩, S.fr, fun c hc => (S.key_own hc).symm⟩
 refine gm (it lb _ _ (fun _ _ h => h) hJ h2 _ ?_ ⟨_, S', xk _, rfl⟩) fun o rc h' y => ke y ?_
 . refine ⟨S'.ok, S'.fr.n, fun b hb hd => g2.get b hb, fun b hb h => ?_, fun b hb => S'.key_lt hb⟩
   rcases S'.key_own hb with h1 | h1
   . omega
   . have := List.mem_singleton.1 h1
     omega
 . rintro F ⟨vR, T, b, rfl⟩
   rw [List.length_map, List.take_length] at T
   subst hX
   refine ⟨_, T.get m0, Nat.zero_ne_one, ?_⟩
   replace T := T.dead
   have S := T
   show Run _ _ _ _ _ _ _ _
   simp only [BS, LB, Nat.reduceLT, Nat.reduceEqDiff, Tryz.FFb244, S.ld (b := b6) (o := 0) m1 rfl]
   have fv : Fl vR := (T.gown _ m0).1.fl
   clear S
   refine aB (aE T (i := 1) rfl Tryz.s25 fv (xD (lbt rfl)) ono) ?_
   clear T; rintro h3 ⟨T, _⟩
   simp only [List.set_cons_zero, List.set_cons_succ] at T
   simp only [BS]
   refine fV (jE [db] _ (L := [(b6, _)]) T.base fun h4 S4 => ?_)
   refine ⟨rfl, (dI (by decide) (by simp only [aO, ab, Nat.reduceEqDiff, reduceIte]; exact pX Tryz.a25 (S4.ld (b := b6) (o := 0) m0 rfl))).2 (dV.2 ⟨gq.trans ((S1.rebase T).rebase S4).gr, (S4.gown _ m0).1.sl rfl (fun _ => rfl) (by decide), fun c hc => ?_⟩)⟩
   rcases (T.gblk m0 hc).1 with h | h
   . omega
   . have := List.mem_singleton.1 h
     omega
open Tryz in
def Tryz.FFb322 := aj a1 <| aj s1 <| aj z1 <| aj n1 <| aj u2 <| aj a2 <| aj s2 <| aj z2 <| aj i2 <| aj u3 <| aj a3 <| aj s3 <| aj z3 <| aj i3 <| aj u4 <| aj a4 <| aj s4 <| aj z4 <| aj n4 <| aj a24 <| aj s24 <| aj z24 <| aj i24 <| aj n24 <| aj p24 <| aj ff24 <| aj d24 <| aj a30 <| aj s30 <| aj z30 <| aj i30 <| aj n30 <| aj p30 <| aj ff30 <| aj d30 <| aj u32 <| aj a32 <| aj s32 <| aj z32 <| aj q32 <| aj i32 <| aj n32 <| aj a37 <| aj s37 <| aj z37 <| aj n37 <| aj u38 <| aj a38 <| aj s38 <| aj z38 <| aj q38 <| aj i38 <| aj n38 <| aj u40 <| aj a40 <| aj s40 <| aj z40 <| aj q40 <| aj n40 <| aj u44 <| aj a44 <| aj s44 <| aj z44 <| aj i44 <| aj u71 <| aj a71 <| aj s71 <| aj z71 <| aj q71 <| aj n71 <| aj a96 <| aj s96 <| aj z96 <| aj i96 <| aj n96 <| aj p96 <| aj ff96 <| aj d96 <| aj a114 <| aj s114 <| aj z114 <| aj n114 <| aj a117 <| aj s117 <| aj z117 <| aj i117 <| aj n117 <| aj p117 <| aj ff117 <| aj d117 <| aj u146 <| aj a146 <| aj s146 <| aj z146 <| aj q146 <| aj n146 <| aj a148 <| aj s148 <| aj z148 <| aj i148 <| aj n148 <| aj p148 <| aj ff148 <| aj d148 <| aj u173 <| aj a173 <| aj s173 <| aj z173 <| aj q173 <| n173
def gH (p : Value) (N nd mk : Nat) (f t : Int) : Int := if isP p = true then dQ N nd mk f t else 1
theorem TabO.gr {E : Env} {h h' : Hp} {pt : Value} {nd mk : Nat} {gM gN : FuncId} (T : TabO E h pt nd mk gM gN) (g : Gr h h') : TabO E h' pt nd mk gM gN := ⟨T.fl, fun x k => T.marks x (g.trans k), fun x k => T.nodes x (g.trans k)⟩
theorem firstC4 {p : Value} {N nd mk : Nat} {f t : Int} {g1 g2 g3 g4 : FuncId} {a1 a2 a3 a4 : Array Value} : j8 [⟨g1, a1, isP p, 1⟩, ⟨g2, a2, decide (0 <= f /\ f < N), 17⟩, ⟨g3, a3, decide (0 <= t /\ t < N), 18⟩, ⟨g4, a4, decide (0 < mk /\ nd = N), 19⟩] = gH p N nd mk f t := by
 simp only [j8, gH, dQ, decide_eq_true_eq]
 cases isP p with
 | false => rfl
 | true =>
   simp only [if_true]
   by_cases h1 : 0 <= f /\ f < (N : Int)
   . by_cases h2 : 0 <= t /\ t < (N : Int)
     . simp only [h1, h2, not_true_eq_false, if_false, and_self, if_true]
     . simp only [h1, h2, not_true_eq_false, not_false_eq_true, if_false, and_self, if_true]
   . simp only [h1, not_false_eq_true, if_false, if_true]
theorem iO {h0 : Hp} (ok : h0.t.Sized h0.n) {p pt q0 : Value} {N nd mk : Nat} {f t a : Int} (fq : Fl q0) (hN : (∃ bp γ nb, p = ptrTo bp /\ bN h0 nb (ptrTo bp) γ /\ N = γ.nodes) \/ p = .pointer none) (T : TabO xa h0 pt nd mk 46 58) :
 aZ xa 22 [p, pt, .agg ⟨[q0, .int .i64 f, .int .i64 t, .int .i64 a]⟩] h0 (.int .i64 (gH p N nd mk f t)) := by
 have fp : Fl p := by rcases hN with ⟨_, _, _, rfl, _⟩ | rfl <;> exact eo
 have ft := T.fl
 have S := Si ok
 refine ae (n := 25) (rs := [.tmp 6]) rfl Tryz.e22 rfl rfl rfl (lbt rfl) ?_
 simp only [BS, Nat.reduceLT]
 refine am (cH (by assumption)) S ?_; clear S; intro h b3 S n_b3
 simp only [BS, Nat.reduceLT, Nat.reduceEqDiff, if_false]
 refine am (cH (by assumption)) S ?_; clear S; intro h b4 S n_b4
 simp only [BS, Nat.reduceLT, Nat.reduceEqDiff, if_false]
 refine am (bz (by intro x e; cases e)) S ?_; clear S; intro h b5 S n_b5; simp only [ag] at S
 have g0 := S.gr
 have okq := S.ok
 have r3 := S.ld (b := b3) (o := 0) m2 rfl
 have r4 := S.ld (b := b4) (o := 0) m1 rfl
 have r51 := S.ld (b := b5) (o := 1) m0 rfl
 have r52 := S.ld (b := b5) (o := 2) m0 rfl
 have q5 := (S.row (b := b5) m0).lt S.ok
 clear S
 rename Hp => hq
 have S := Si okq
 simp only [BS, LB, Nat.reduceLT, Nat.reduceEqDiff]
 refine aC (aI rfl) (q := 16384) (ps := [(5, 9)]) (by kernel_rfl) ?_
 simp only [BS, LB, cls, Nat.reduceLT, Nat.reduceEqDiff, Nat.reduceAdd, Nat.reducePow, Nat.reduceDiv, Nat.reduceMod, Nat.reduceLeDiff, Tryz.FFb322, r51]
 refine dl (node_ok S.ok) ?_
 rintro v1 h ⟨g, x1, rfl, l1⟩
 have e1 : leaves _ _ b5 = true := aF g q5
 have k1 := g.n
 replace S := S.call g
 simp only [BS, LB, cls, Nat.reduceLT, Nat.reduceEqDiff, Nat.reduceAdd, Nat.reducePow, Nat.reduceDiv, Nat.reduceMod, Nat.reduceLeDiff, Tryz.FFb322, g.load r52]
 clear g
 refine dl (node_ok S.ok) ?_
 rintro v2 h ⟨g, x2, rfl, l2⟩
 have e2 : leaves _ _ b5 = true := aF g (xc q5 k1)
 replace S := S.call g
 replace l1 := g.load l1
 simp only [BS, LB, cls, Nat.reduceLT, Nat.reduceEqDiff, Nat.reduceAdd, Nat.reducePow, Nat.reduceDiv, Nat.reduceMod, Nat.reduceLeDiff, Tryz.FFb322]
 have gA := S.gr
 have okA := S.ok
 clear S g
 rename Hp => hA
 have S := Si okA
 refine c9 (bM (by exact Tryz.u173) (by exact Tryz.e117E) (by decide) (by rfl)) S ?_; clear S; intro h bs S n_bs e_bs; simp only [LC, aP, bD, ag, Nat.reduceMul, Nat.reduceAdd, xq, xu, xl, xx] at S
 have gB := S.gr
 have okB := S.ok
 have l3' := gB.load (gA.load r3)
 have l4' := gB.load (gA.load r4)
 have l1' := gB.load l1
 have l2' := gB.load l2
 have gT := (g0.trans gA).trans gB
 simp only [BS, LB, cls, Nat.reduceLT, Nat.reduceEqDiff, Nat.reduceAdd, Nat.reducePow, Nat.reduceDiv, Nat.reduceMod, Nat.reduceLeDiff]
 refine cI (ud okB (rs := [⟨56, #[ptrTo b3], isP p, 1⟩, ⟨54, #[ptrTo x1, ptrTo b3], decide (0 <= f /\ f < N), 17⟩, ⟨54, #[ptrTo x2, ptrTo b3], decide (0 <= t /\ t < N), 18⟩, ⟨57, #[ptrTo b4, ptrTo b3], decide (0 < mk /\ nd = N), 19⟩]) (.inr ⟨bs, 0, none, 4, rfl, xp _, S.lds (b := bs) (o := 0) (n := 4 * 2) m0 (lbt rfl)⟩) (by simp) (fun i hi => ?_)) ?_
 . have hi4 : i < 4 := hi
   rcases (by omega : i = 0 \/ i = 1 \/ i = 2 \/ i = 3) with rfl | rfl | rfl | rfl
   . intro _
     refine net2_ok ?_ l3'
     rcases hN with ⟨bp, _, _, rfl, _⟩ | rfl
     . exact .inl ⟨bp, rfl⟩
     . exact .inr rfl
   . intro hb
     have h1 : isP p = true := hb 0 (by omega)
     rcases hN with ⟨bp, γ, nb, rfl, c, rfl⟩ | rfl
     . exact tA (c.gr gT) l1' l3'
     . cases h1
   . intro hb
     have h1 : isP p = true := hb 0 (by omega)
     rcases hN with ⟨bp, γ, nb, rfl, c, rfl⟩ | rfl
     . exact tA (c.gr gT) l2' l3'
     . cases h1
   . intro hb
     have h1 : isP p = true := hb 0 (by omega)
     rcases hN with ⟨bp, γ, nb, rfl, c, rfl⟩ | rfl
     . exact tab3_ok (c.gr gT) (T.gr gT) l4' l3'
     . cases h1
 . intro h g
   rw [firstC4]
   replace S := S.call g
   simp only [BS, LB, cls, ac, Nat.reduceLT, Nat.reduceEqDiff, Nat.reduceAdd, Nat.reducePow, Nat.reduceDiv, Nat.reduceMod, Nat.reduceLeDiff]
   refine ⟨by simp only [aW, bw, aR, bE, aT, ne_eq, not_false_eq_true, bH, bR, bG, aV, bW, cM, aO, Nat.reduceLT, Nat.reduceEqDiff, reduceIte, xd, ab, bA e1, aU e1, bA e2, aU e2], ?_⟩
   exact (g0.trans gA).trans S.gr
open Tryz in
def Tryz.FFb446 := aj a1 <| aj s1 <| aj z1 <| aj n1 <| aj u2 <| aj a2 <| aj s2 <| aj z2 <| aj i2 <| aj u3 <| aj a3 <| aj s3 <| aj z3 <| aj i3 <| aj u4 <| aj a4 <| aj s4 <| aj z4 <| aj n4 <| aj u25 <| aj a25 <| aj s25 <| aj z25 <| aj q25 <| aj n25 <| aj u38 <| aj a38 <| aj s38 <| aj z38 <| aj q38 <| aj i38 <| aj n38 <| aj u40 <| aj a40 <| aj s40 <| aj z40 <| aj q40 <| aj n40 <| aj u71 <| aj a71 <| aj s71 <| aj z71 <| aj q71 <| aj n71 <| aj a96 <| aj s96 <| aj z96 <| aj i96 <| aj n96 <| aj p96 <| aj ff96 <| d96
open Tryz in
def Tryz.FFb458 := aj a1 <| aj s1 <| aj z1 <| aj n1 <| aj u2 <| aj a2 <| aj s2 <| aj z2 <| aj i2 <| aj u3 <| aj a3 <| aj s3 <| aj z3 <| aj i3 <| aj u4 <| aj a4 <| aj s4 <| aj z4 <| aj n4 <| aj u25 <| aj a25 <| aj s25 <| aj z25 <| aj q25 <| aj n25 <| aj u38 <| aj a38 <| aj s38 <| aj z38 <| aj q38 <| aj i38 <| aj n38 <| aj u40 <| aj a40 <| aj s40 <| aj z40 <| aj q40 <| aj n40 <| aj u71 <| aj a71 <| aj s71 <| aj z71 <| aj q71 <| aj n71 <| aj a96 <| aj s96 <| aj z96 <| aj i96 <| aj n96 <| aj p96 <| aj ff96 <| d96
open Tryz in
def Tryz.FFb415 := aj a1 <| aj s1 <| aj z1 <| aj n1 <| aj u2 <| aj a2 <| aj s2 <| aj z2 <| aj i2 <| aj u3 <| aj a3 <| aj s3 <| aj z3 <| aj i3 <| aj u4 <| aj a4 <| aj s4 <| aj z4 <| aj n4 <| aj u5 <| aj a5 <| aj s5 <| aj z5 <| aj i5 <| aj u6 <| aj a6 <| aj s6 <| aj z6 <| aj i6 <| aj a7 <| aj s7 <| aj z7 <| aj i7 <| aj n7 <| aj p7 <| aj ff7 <| aj d7 <| aj a8 <| aj s8 <| aj z8 <| aj i8 <| aj n8 <| aj p8 <| aj ff8 <| aj d8 <| aj a24 <| aj s24 <| aj z24 <| aj i24 <| aj n24 <| aj p24 <| aj ff24 <| aj d24 <| aj u25 <| aj a25 <| aj s25 <| aj z25 <| aj q25 <| aj n25 <| aj a30 <| aj s30 <| aj z30 <| aj i30 <| aj n30 <| aj p30 <| aj ff30 <| aj d30 <| aj u32 <| aj a32 <| aj s32 <| aj z32 <| aj q32 <| aj i32 <| aj n32 <| aj u38 <| aj a38 <| aj s38 <| aj z38 <| aj q38 <| aj i38 <| aj n38 <| aj u40 <| aj a40 <| aj s40 <| aj z40 <| aj q40 <| aj n40 <| aj u44 <| aj a44 <| aj s44 <| aj z44 <| aj i44 <| aj a46 <| aj s46 <| aj z46 <| aj i46 <| aj n46 <| aj p46 <| aj ff46 <| aj d46 <| aj u47 <| aj a47 <| aj s47 <| aj z47 <| aj q47 <| aj n47 <| aj u55 <| aj a55 <| aj s55 <| aj z55 <| aj q55 <| aj n55 <| aj a57 <| aj s57 <| aj z57 <| aj i57 <| aj n57 <| aj p57 <| aj ff57 <| aj d57 <| aj u71 <| aj a71 <| aj s71 <| aj z71 <| aj q71 <| aj n71 <| aj a96 <| aj s96 <| aj z96 <| aj i96 <| aj n96 <| aj p96 <| aj ff96 <| aj d96 <| aj a99 <| aj s99 <| aj z99 <| aj i99 <| aj n99 <| aj p99 <| aj ff99 <| aj d99 <| aj a104 <| aj s104 <| aj z104 <| aj i104 <| aj n104 <| aj p104 <| aj ff104 <| aj d104 <| aj u146 <| aj a146 <| aj s146 <| aj z146 <| aj q146 <| aj n146 <| aj a148 <| aj s148 <| aj z148 <| aj i148 <| aj n148 <| aj p148 <| aj ff148 <| d148
theorem ut {h0 : Hp} (ok : h0.t.Sized h0.n) : Ret xa 46 [.pointer none] h0 fun r h' => Gr h0 h' /\ ∃ l : List Int, ax h' 1 (encI .i64) r l /\ l.length = 0 := by
 have S := Si ok
 refine ae (n := 10) (rs := [.tmp 2]) rfl Tryz.e46 rfl rfl rfl (lbt rfl) ?_
 simp only [BS, LB, ac, Nat.reduceLT, Nat.reduceEqDiff, Tryz.FFb446]
 exact ⟨S.gr, [], .inl ⟨rfl, rfl⟩, rfl⟩
theorem uc {h0 : Hp} (ok : h0.t.Sized h0.n) : aZ xa 58 [.pointer none] h0 (.int .i64 ((0 : Nat) : Int)) := by
 have S := Si ok
 refine ae (n := 9) (rs := [.tmp 2]) rfl Tryz.e58 rfl rfl rfl (lbt rfl) ?_
 simp only [BS, LB, ac, Nat.reduceLT, Nat.reduceEqDiff, xg, Tryz.FFb458]
 exact S.gr
def kk (h : Hp) (pt : Value) (nd : Nat) (l : List Int) (R Q : Nat -> List Int) : Prop := (∃ m, TabAt h m pt nd l R Q /\ (∀ i, i < l.length -> (R i).length = nd) /\ ∀ i, i < l.length -> (Q i).length = nd) \/ (pt = .pointer none /\ nd = 0 /\ l = [])
theorem kk.gr {h h' : Hp} {pt : Value} {nd : Nat} {l : List Int} {R Q : Nat -> List Int} (t : kk h pt nd l R Q) (g : Gr h h') : kk h' pt nd l R Q := t.imp (fun ⟨m, a, b⟩ => ⟨m, a.gr g, b⟩) (fun h => h)
theorem kk.tabO {h : Hp} {pt : Value} {nd : Nat} {l : List Int} {R Q : Nat -> List Int} (t : kk h pt nd l R Q) (hl : l.length < 1000) : TabO xa h pt nd l.length 46 58 := by
 rcases t with ⟨m, t, _, _⟩ | ⟨rfl, rfl, rfl⟩
 . refine ⟨by obtain ⟨b, _, _, _, rfl, _⟩ := t.ex; exact eo, fun x k => (jP k.ok (t.gr k) hl).mono fun r h' ⟨a, b, c⟩ => ⟨a, l, b, rfl⟩, fun x k => lV k.ok (t.gr k)⟩
 . exact ⟨eo, fun x k => ut k.ok, fun x k => uc k.ok⟩
theorem vL {N nd mk : Nat} {f t : Int} (h : dQ N nd mk f t = 0) : (0 <= f /\ f < N) /\ (0 <= t /\ t < N) /\ 0 < mk /\ nd = N := by
 unfold dQ at h
 split at h
 . cases h
 . split at h
   . cases h
   . split at h
     . rename_i h1 h2 h3; exact ⟨by omega, by omega, h3⟩
     . cases h
def ansV (c : Int) (d : Int) (vA vB : Value) : Value := .agg ⟨[.int .i64 c, .int .i64 d, vA, vB]⟩
theorem altRun_ok {h0 : Hp} (ok : h0.t.Sized h0.n) {bp nb nd : Nat} {γ : Gra} (hγ : Good γ) (hn : bN h0 nb (ptrTo bp) γ) {pt q0 : Value} {l : List Int} {R Q : Nat -> List Int} (T : kk h0 pt nd l R Q) (hl : l.length <= 16) (fq : Fl q0) {f t a : Int} :
 Ret xa 15 [ptrTo bp, pt, .agg ⟨[q0, .int .i64 f, .int .i64 t, .int .i64 a]⟩] h0 fun r h' => Gr h0 h' /\ ∃ c d vA vB vE, r = .tuple #[ansV c d vA vB, vE] /\
  (((dQ γ.nodes nd l.length f t ≠ 0 \/ f = t) /\ c = dQ γ.nodes nd l.length f t /\ d = 0 /\ vA = .slice none 0 0 /\ vB = .slice none 0 0 /\ vE = .slice none 0 0) \/
   (dQ γ.nodes nd l.length f t = 0 /\ f ≠ t /\ ∃ (s w : Nat) (fd : Fd), f = s /\ t = w /\ s < γ.nodes /\ w < γ.nodes /\ nd = γ.nodes /\
     Ends γ.arcs (alF []) (piF ((xm γ.nodes).map fun (v : Nat) => kJ γ.nodes l.length R Q v w ((actL γ.nodes l.length R Q f t a).map fun (x : Nat) => (x : Int)))) w (kM (piF ((xm γ.nodes).map fun (v : Nat) => kJ γ.nodes l.length R Q v w ((actL γ.nodes l.length R Q f t a).map fun (x : Nat) => (x : Int)))) s) fd /\
     ax h' 4 fS vE fd.ev /\
     ((FAR <= fd.dist /\ c = 20 /\ d = 0 /\ vA = .slice none 0 0 /\ vB = .slice none 0 0) \/
      (fd.dist < FAR /\ c = 0 /\ d = (fd.dist : Nat) /\ ax h' 1 cd vA fd.arcs /\ ax h' 1 cd vB (actL γ.nodes l.length R Q f t a))))) := by
 have S := Si ok
 have ft : Fl pt := (T.tabO (by omega)).fl
 refine ae (n := 64) (rs := [.cell 6 46, .tmp 7]) rfl Tryz.e15 rfl rfl rfl (lbt rfl) ?_
 simp only [BS, Nat.reduceLT]
 refine am (bz (by intro x e; cases e)) S ?_; clear S; intro h b5 S n_b5; simp only [ag] at S
 simp only [BS, Tryz.FFb415]
 refine am ay S ?_; clear S; intro h b6 S n_b6
 simp only [BS, LB, Nat.reduceLT, Nat.reduceEqDiff, Tryz.FFb415, xC, xJ, xN, S.lds (b := b5) (o := 0) (n := 4) m1 (lbt rfl)]
 refine aq (iO S.ok fq (.inl ⟨bp, γ, nb, rfl, hn.gr S.gr, rfl⟩) ((T.gr S.gr).tabO (by omega)) (a := a) (f := f) (t := t)) ?_
 intro h g
 have eW : gH (.pointer (some ⟨bp, 0, none⟩)) γ.nodes nd l.length f t = dQ γ.nodes nd l.length f t := rfl
 rw [eW]
 obtain ⟨c, hc⟩ : ∃ c, dQ γ.nodes nd l.length f t = c := ⟨_, rfl⟩
 rw [hc]
 replace S := S.call g; clear g
 by_cases c0 : c = 0
 . subst c0
   by_cases hft : f = t
   . subst hft
     simp only [BS, LB, Nat.reduceLT, Nat.reduceEqDiff, Nat.reduceAdd, Tryz.FFb415, S.ld (b := b5) (o := 1) m1 rfl, S.ld (b := b5) (o := 2) m1 rfl]
     refine aB (S.store (i := 0) rfl xy (by intro x e; cases e) rfl rfl (lbt rfl) ono) ?_
     clear S; rintro h3 ⟨S, mo⟩
     simp only [LC, ag, lay, xi, xj, Nat.reduceAdd] at S
     simp only [BS, ac]
     refine (dI (by decide) (by simp only [aO, ab, Nat.reduceEqDiff, reduceIte]; exact cv xS xy (S.lds (b := b6) (o := 0) (n := 4) m0 (lbt rfl)))).2 ?_
     refine (iE (by decide)).2 (dV.2 ?_)
     exact ⟨S.gr, _, _, _, _, _, rfl, .inl ⟨.inr trivial, rfl, rfl, rfl, rfl, rfl⟩⟩
   . obtain ⟨hs0, ht0, hmk, hnd⟩ := vL hc
     obtain ⟨s, rfl⟩ := xv hs0.1
     obtain ⟨w, rfl⟩ := xv ht0.1
     have hs : s < γ.nodes := by omega
     have hw : w < γ.nodes := by omega
     have hsw : s ≠ w := fun e => hft (by rw [e])
     subst hnd
     obtain ⟨m, t, lR, lQ⟩ : ∃ m, TabAt h0 m pt γ.nodes l R Q /\ (∀ i, i < l.length -> (R i).length = γ.nodes) /\ ∀ i, i < l.length -> (Q i).length = γ.nodes := by
      rcases T with h | ⟨_, _, rfl⟩
      . exact h
      . simp at hmk
     simp only [BS, LB, Nat.reduceLT, Nat.reduceEqDiff, Tryz.FFb415, hft, S.ld (b := b5) (o := 1) m1 rfl, S.ld (b := b5) (o := 2) m1 rfl, S.ld (b := b5) (o := 3) m1 rfl]
     have k6 := (S.row (b := b6) m0).lt S.ok
     refine step_ret (uL S.ok (t.gr S.gr) lR lQ hl) ?_
     rintro vB h ⟨g, sB, nB⟩
     replace S := S.call g; clear g
     have la : (actL γ.nodes l.length R Q s w a).length <= 16 := by unfold actL; rw [xe]; omega
     have R5 := S.row (b := b5) m1
     have R6 := S.row (b := b6) m0
     have S0 := S
     have gV := S.gr
     have okV := S.ok
     have l51 := R5.load1 (o := 1) rfl
     have l52 := R5.load1 (o := 2) rfl
     have p5 := R5.lt okV
     have f1 := hγ.n2
     simp only [BS, LB, Nat.reduceLT, Nat.reduceEqDiff]
     clear S
     have S := Si okV
     rename Hp => hV
     refine aC (nU (ord := [15, 0, 1, 2, 3, 4, 5, 6, 7, 8, 9, 10, 11, 12, 13, 14, 16, 17]) rfl rfl (by simp only [eU, reix, eZ, List.getElem?_cons_zero, List.getElem?_cons_succ, List.map_toArray, xP, xR, Nat.reduceBEq, cond_true, cond_false]; exact rfl)) (q := 1) (ps := [(0, 12), (5, 10), (3, 10), (0, 10)]) (by kernel_rfl) ?_
     simp only [BS, LB, cls, Nat.reducePow, Nat.reduceDiv, Nat.reduceMod, Nat.reduceLeDiff, Tryz.FFb415]
     refine c9 ay S ?_; clear S; intro h b10 S n_b10 e_b10
     have p10 := S.fr.n
     have gB := S.gr
     have r10 := S.row (b := b10) m0
     have q10 := r10.lt S.ok
     simp only [BS, LB, cls, Nat.reduceLT, Nat.reduceEqDiff, Nat.reduceAdd, Nat.reducePow, Nat.reduceDiv, Nat.reduceMod, Nat.reduceLeDiff, Tryz.FFb415, gB.load l51, gB.load l52]
     refine dl (bPi_ok S.ok ((t.gr gV).gr gB) lR lQ (by omega) (by omega) (sl_nat (sB.gr gB)) (by rw [List.length_map]; omega) hw) ?_
     rintro vP h ⟨g, sP, nP⟩
     have e1 : leaves _ _ b5 = true := aF g (xc p5 p10)
     have e2 : leaves _ _ b10 = true := aF g q10
     have kq := g.n
     replace S := S.call g; clear g
     simp only [BS, LB, cls, Nat.reduceLT, Nat.reduceEqDiff, Nat.reduceAdd, Nat.reducePow, Nat.reduceDiv, Nat.reduceMod, Nat.reduceLeDiff, Tryz.FFb415, sP.fl]
     refine dl (uV S.ok hγ ((hn.gr gV).gr S.gr) hs hw (als := []) (.inl ⟨rfl, rfl⟩) (.inl rfl) sP (.inr (by simp))) ?_
     rintro r h ⟨g, v, fd, rfl, ⟨xA, xE, rfl, G1, G2, d1, d2⟩, he⟩
     have e3 : leaves _ _ b5 = true := aF g (xc p5 (xh p10 kq))
     have e4 : leaves _ _ b10 = true := aF g (xc q10 kq)
     have y1 : Fl xA := G1.fl
     have y2 : Fl xE := G2.fl
     replace S := S.call g
     simp only [BS, LB, cls, Nat.reduceLT, Nat.reduceEqDiff, Nat.reduceAdd, Nat.reducePow, Nat.reduceDiv, Nat.reduceMod, Nat.reduceLeDiff]
     refine du (S.store (i := 0) rfl Tryz.s99 (by intro x e; cases e) rfl (by simp only [ag, xo, xr, y1.2.1, y2.2.1, xd]; rfl) (lbt rfl) ono) ?_
     have okG := S.ok
     have b10x : ∀ c, av xA c \/ av xE c -> c ≠ b10 := fun c hc e => by
      have := S.fr.n
      have h1 : _ <= c := hc.elim (fun h => (d1 c h).1) (fun h => d2 c h)
      omega
     clear S; rintro h3 ⟨S, mo⟩
     simp only [LC, ag, lay, xi, xj, Nat.reduceAdd] at S
     simp only [BS, LB, cls, Nat.reduceLT, Nat.reduceEqDiff, Nat.reduceAdd, Nat.reducePow, Nat.reduceDiv, Nat.reduceMod, Nat.reduceLeDiff, Tryz.FFb415]
     refine ⟨by simp only [aW, bw, aR, bE, aT, ne_eq, not_false_eq_true, bH, bR, bG, aV, bW, cM, aO, Nat.reduceLT, Nat.reduceEqDiff, reduceIte, xd, ab, kz, bA e1, aU e1, bA e2, aU e2, bA e3, aU e3, bA e4, aU e4, <- e_b10], ?_⟩
     have r10 := S.row (b := b10) m0
     have j0 := r10.load1 (o := 0) rfl
     have j1 := r10.load1 (o := 1) rfl
     have j2 := r10.load1 (o := 2) rfl
     have n10 : b6 ≠ b10 := fun e => by have := (S0.row (b := b6) m0).lt okV; omega
     have G1' : ax h3 1 cd xA fd.arcs := (G1.sl rfl gu (by decide)).mo mo (fun c hc e => b10x c (.inl hc) e)
     have G2' : ax h3 4 fS xE fd.ev := (G2.sl rfl oY (by decide)).mo mo (fun c hc e => b10x c (.inr hc) e)
     have sB' := sB.gr S.gr
     have g3 := S.gr
     have S1 := S0.call S.gr
     clear S
     have S := S1
     clear S1
     have far := nH
     by_cases hd : fd.dist < FAR
     . have hd' : ¬ (72057594037927936 : Int) <= (fd.dist : Int) := by omega
       simp only [BS, LB, Nat.reduceLT, Nat.reduceEqDiff, j0, hd']
       refine aC (aI rfl) (q := 0) (ps := [(7, 8)]) (by kernel_rfl) ?_
       simp only [BS, LB, cls, Nat.reduceLT, Nat.reduceEqDiff, Nat.reduceAdd, Nat.reducePow, Nat.reduceDiv, Nat.reduceMod, Nat.reduceLeDiff, Tryz.FFb415, j0, j1, j2, y1, sB.fl]
       refine du (S.store (i := 0) rfl xy (by intro x e; cases e) rfl (by simp only [ag, xo, xr, y1.2.1, y2.2.1, sB.fl.2.1, xd]; rfl) (lbt rfl) ono) ?_
       clear S; rintro h4 ⟨S, mo4⟩
       simp only [LC, ag, lay, xi, xj, Nat.reduceAdd] at S
       simp only [BS, LB, cls, ac, Nat.reduceLT, Nat.reduceEqDiff, Nat.reduceAdd, Nat.reducePow, Nat.reduceDiv, Nat.reduceMod, Nat.reduceLeDiff]
       refine ⟨by simp only [aW, bw, aR, bE, aT, ne_eq, not_false_eq_true, bH, bR, bG, aV, bW, cM, aO, Nat.reduceLT, Nat.reduceEqDiff, reduceIte, xd, ab, kz, gZ n10, gZ n10.symm], ?_⟩
       refine (dI (by decide) (by simp only [aO, ab, Nat.reduceEqDiff, reduceIte]; exact cv xS xy (S.lds (b := b6) (o := 0) (n := 4) m0 (lbt rfl)))).2 ?_
       refine (iE (by decide)).2 (dV.2 ?_)
       have zE : ax h4 4 fS xE fd.ev := G2'.mo mo4 (fun c hc e => by have := d2 c hc; have := R6.lt okV; omega)
       have zA : ax h4 1 cd xA fd.arcs := G1'.mo mo4 (fun c hc e => by have := (d1 c hc).1; have := R6.lt okV; omega)
       have zB := sB'.mo mo4 (fun c hc e => by have := nB c hc; omega)
       exact ⟨S.gr, _, _, _, _, _, rfl, .inr ⟨hft, s, w, fd, rfl, rfl, hs, hw, he.resolve_left (fun h => hsw h.1) |>.2, zE, .inr ⟨hd, rfl, rfl, zA, zB⟩⟩⟩
     . have hd' : (72057594037927936 : Int) <= (fd.dist : Int) := by omega
       simp only [BS, LB, Nat.reduceLT, Nat.reduceEqDiff, j0, hd']
       refine aC (aI rfl) (q := 0) (ps := [(2, 3)]) (by kernel_rfl) ?_
       simp only [BS, LB, cls, Nat.reduceLT, Nat.reduceEqDiff, Nat.reduceAdd, Nat.reducePow, Nat.reduceDiv, Nat.reduceMod, Nat.reduceLeDiff, Tryz.FFb415, j2]
       refine du (S.store (i := 0) rfl xy (by intro x e; cases e) rfl (by simp only [ag, xo, xr, y1.2.1, y2.2.1, xd]; rfl) (lbt rfl) ono) ?_
       clear S; rintro h4 ⟨S, mo4⟩
       simp only [LC, ag, lay, xi, xj, Nat.reduceAdd] at S
       simp only [BS, LB, cls, ac, Nat.reduceLT, Nat.reduceEqDiff, Nat.reduceAdd, Nat.reducePow, Nat.reduceDiv, Nat.reduceMod, Nat.reduceLeDiff]
       refine ⟨by simp only [aW, bw, aR, bE, aT, ne_eq, not_false_eq_true, bH, bR, bG, aV, bW, cM, aO, Nat.reduceLT, Nat.reduceEqDiff, reduceIte, xd, ab, kz, gZ n10, gZ n10.symm], ?_⟩
       refine (dI (by decide) (by simp only [aO, ab, Nat.reduceEqDiff, reduceIte]; exact cv xS xy (S.lds (b := b6) (o := 0) (n := 4) m0 (lbt rfl)))).2 ?_
       refine (iE (by decide)).2 (dV.2 ?_)
       have zE : ax h4 4 fS xE fd.ev := G2'.mo mo4 (fun c hc e => by have := d2 c hc; have := R6.lt okV; omega)
       exact ⟨S.gr, _, _, _, _, _, rfl, .inr ⟨hft, s, w, fd, rfl, rfl, hs, hw, he.resolve_left (fun h => hsw h.1) |>.2, zE, .inl ⟨by omega, rfl, rfl, rfl, rfl⟩⟩⟩
 . simp only [BS, LB, Nat.reduceLT, Nat.reduceEqDiff, Nat.reduceAdd, Tryz.FFb415, c0]
   refine aB (S.store (i := 0) rfl xy (by intro x e; cases e) rfl rfl (lbt rfl) ono) ?_
   clear S; rintro h3 ⟨S, mo⟩
   simp only [LC, ag, lay, xi, xj, Nat.reduceAdd] at S
   simp only [BS, ac]
   refine (dI (by decide) (by simp only [aO, ab, Nat.reduceEqDiff, reduceIte]; exact cv xS xy (S.lds (b := b6) (o := 0) (n := 4) m0 (lbt rfl)))).2 ?_
   refine (iE (by decide)).2 (dV.2 ?_)
   exact ⟨S.gr, _, _, _, _, _, rfl, .inl ⟨.inl c0, rfl, rfl, rfl, rfl, rfl⟩⟩
open Tryz in
def Tryz.FFb58 := aj a1 <| aj s1 <| aj z1 <| aj n1 <| aj u2 <| aj a2 <| aj s2 <| aj z2 <| aj i2 <| aj u3 <| aj a3 <| aj s3 <| aj z3 <| aj i3 <| aj u5 <| aj a5 <| aj s5 <| aj z5 <| aj i5 <| aj u22 <| aj a22 <| aj s22 <| aj z22 <| aj q22 <| aj n22 <| aj a24 <| aj s24 <| aj z24 <| aj i24 <| aj n24 <| aj p24 <| aj ff24 <| aj d24 <| aj u25 <| aj a25 <| aj s25 <| aj z25 <| aj q25 <| aj n25 <| aj a27 <| aj s27 <| aj z27 <| aj i27 <| aj n27 <| aj p27 <| aj ff27 <| aj d27 <| aj u28 <| aj a28 <| aj s28 <| aj z28 <| aj q28 <| aj n28 <| aj a30 <| aj s30 <| aj z30 <| aj i30 <| aj n30 <| aj p30 <| aj ff30 <| aj d30 <| aj a59 <| aj s59 <| aj z59 <| aj i59 <| aj n59 <| aj p59 <| aj ff59 <| aj d59 <| aj u61 <| aj a61 <| aj s61 <| aj z61 <| aj q61 <| aj i61 <| aj n61 <| aj a63 <| aj s63 <| aj z63 <| aj i63 <| aj n63 <| aj p63 <| aj ff63 <| d63
open Tryz in
def Tryz.FFb521 := aj a1 <| aj s1 <| aj z1 <| aj n1 <| aj u2 <| aj a2 <| aj s2 <| aj z2 <| aj i2 <| aj u3 <| aj a3 <| aj s3 <| aj z3 <| aj i3 <| aj u4 <| aj a4 <| aj s4 <| aj z4 <| aj n4 <| aj u5 <| aj a5 <| aj s5 <| aj z5 <| aj i5 <| aj u6 <| aj a6 <| aj s6 <| aj z6 <| aj i6 <| aj a7 <| aj s7 <| aj z7 <| aj i7 <| aj n7 <| aj p7 <| aj ff7 <| aj d7 <| aj a24 <| aj s24 <| aj z24 <| aj i24 <| aj n24 <| aj p24 <| aj ff24 <| aj d24 <| aj u25 <| aj a25 <| aj s25 <| aj z25 <| aj q25 <| aj n25 <| aj u28 <| aj a28 <| aj s28 <| aj z28 <| aj q28 <| aj n28 <| aj a30 <| aj s30 <| aj z30 <| aj i30 <| aj n30 <| aj p30 <| aj ff30 <| aj d30 <| aj u44 <| aj a44 <| aj s44 <| aj z44 <| aj i44 <| aj a59 <| aj s59 <| aj z59 <| aj i59 <| aj n59 <| aj p59 <| aj ff59 <| d59
open Tryz in
def Tryz.FFb512 := aj a1 <| aj s1 <| aj z1 <| aj n1 <| aj u2 <| aj a2 <| aj s2 <| aj z2 <| aj i2 <| aj u3 <| aj a3 <| aj s3 <| aj z3 <| aj i3 <| aj u4 <| aj a4 <| aj s4 <| aj z4 <| aj n4 <| aj u5 <| aj a5 <| aj s5 <| aj z5 <| aj i5 <| aj u6 <| aj a6 <| aj s6 <| aj z6 <| aj i6 <| aj a7 <| aj s7 <| aj z7 <| aj i7 <| aj n7 <| aj p7 <| aj ff7 <| aj d7 <| aj a8 <| aj s8 <| aj z8 <| aj i8 <| aj n8 <| aj p8 <| aj ff8 <| aj d8 <| aj u9 <| aj a9 <| aj s9 <| aj z9 <| aj n9 <| aj u10 <| aj a10 <| aj s10 <| aj z10 <| aj n10 <| aj u11 <| aj a11 <| aj s11 <| aj z11 <| aj n11 <| aj u12 <| aj a12 <| aj s12 <| aj z12 <| aj i12 <| aj a13 <| aj s13 <| aj z13 <| aj i13 <| aj n13 <| aj p13 <| aj ff13 <| aj d13 <| aj a14 <| aj s14 <| aj z14 <| aj i14 <| aj n14 <| aj p14 <| aj ff14 <| aj d14 <| aj u15 <| aj a15 <| aj s15 <| aj z15 <| aj q15 <| aj i15 <| aj n15 <| aj u17 <| aj a17 <| aj s17 <| aj z17 <| aj q17 <| aj i17 <| aj n17 <| aj u22 <| aj a22 <| aj s22 <| aj z22 <| aj q22 <| aj n22 <| aj a24 <| aj s24 <| aj z24 <| aj i24 <| aj n24 <| aj p24 <| aj ff24 <| aj d24 <| aj u25 <| aj a25 <| aj s25 <| aj z25 <| aj q25 <| aj n25 <| aj a27 <| aj s27 <| aj z27 <| aj i27 <| aj n27 <| aj p27 <| aj ff27 <| aj d27 <| aj u40 <| aj a40 <| aj s40 <| aj z40 <| aj q40 <| aj n40 <| aj a274 <| aj s274 <| aj z274 <| aj i274 <| aj n274 <| aj p274 <| aj ff274 <| d274
theorem v9 {h0 : Hp} (ok : h0.t.Sized h0.n) {vB vM vN : Value} {w0 w1 w2 w3 : Int} {B : List Int} (hB : SlW h0 .u8 vB B) (fM : Fl vM) (fN : Fl vN) :
 Ret xa 8 [.agg ⟨[vB, vM, .int .i64 w0, .int .i64 w1, .int .i64 w2, .int .i64 w3, vN]⟩] h0 fun r h' => Gr h0 h' /\ ∃ γ vx vy va, r = hI γ vx vy va /\ Good γ /\ cJ h' vx vy va γ /\ ∀ c, (av vx c \/ av vy c \/ av va c) -> h0.n <= c := by
 have S := Si ok
 have mn : min (B.length : Int) 60 = ((min B.length 60 : Nat) : Int) := by omega
 obtain ⟨vB', hsl, sB, bB⟩ := hB.low (kd' := .i64) (n := min B.length 60) Tryz.u22 Tryz.s5 (Nat.min_le_left _ _)
 have fB := hB.sl.fl
 have fB' := sB.fl
 refine ae (n := 15) (rs := [.cell 2 30]) rfl Tryz.e8 rfl rfl rfl (lbt rfl) ?_
 simp only [BS, Nat.reduceLT]
 refine am (bz (by intro x e; cases e)) S ?_; clear S; intro h b1 S n_b1; simp only [ag] at S
 simp only [BS, Tryz.FFb58]
 refine am ay S ?_; clear S; intro h b2 S n_b2
 simp only [BS, LB, Nat.reduceLT, Nat.reduceEqDiff, Nat.reduceAdd, xG, xH, Tryz.FFb58, hB.sl.lenq, mn, hsl, fB', S.ld (b := b1) (o := 0) m1 rfl]
 refine am (bz (by intro x e; cases e)) S ?_; clear S; intro h bd S n_bd; simp only [ag] at S
 have hB' : ax h 1 (encI .u8) vB' (B.take (min B.length 60)) := sB.gr S.gr
 have nB : ¬ av vB' bd := fun hc => by have := sB.lt ok hc; omega
 have lb' : (B.take (min B.length 60)).length < 1000000 := by rw [xe]; omega
 simp only [BS, LB, Nat.reduceLT, Nat.reduceEqDiff]
 have k0 := S.fr.n
 have ap := S.apart
 simp only [keys, xP, xR, List.filterMap_nil, List.append_nil, List.nodup_cons, List.mem_cons, List.not_mem_nil, or_false, not_or] at ap
 have lt2 := (S.row (b := b2) m1).lt S.ok
 refine step_ret (raw_ok S.ok (S.row m0) ⟨hB', nB, lb', by omega⟩) ?_
 rintro v h ⟨f, γ, vx, vy, va, rfl, hγ, ga, hz⟩
 replace S := S.drop1.step f (fun c hc => by subst hc; exact .inr n_bd) (fun c hc e => by simp [keys] at hc; omega)
 have fx := ga.X.fl
 have fy := ga.Y.fl
 have fa := ga.A.fl
 simp only [BS, LB, Nat.reduceLT, Nat.reduceEqDiff, hI]
 refine aB (S.store (i := 0) rfl xT (by intro x e; cases e) rfl (by simp only [ag, xo, xr, fx.2.1, fy.2.1, fa.2.1, xd]; rfl) (lbt rfl) ono) ?_
 clear S; rintro h ⟨S, mo⟩
 simp only [LC, ag, lay, xi, xj, Nat.reduceAdd] at S
 simp only [BS, ac]
 refine (dI (by decide) (by simp only [aO, ab, Nat.reduceEqDiff, reduceIte]; exact cv Tryz.a30 xT (S.lds (b := b2) (o := 0) (n := 4) m0 (lbt rfl)))).2 (dV.2 ?_)
 exact ⟨S.gr, γ, vx, vy, va, rfl, hγ, ga.mo mo (fun c hc e => by have := hz c hc; omega), fun c hc => xh k0 (hz c hc)⟩
theorem mz {h0 : Hp} (ok : h0.t.Sized h0.n) {N mk nd : Nat} {vx vy va q0 : Value} {f t a : Int} (fx : Fl vx) (fy : Fl vy) (fa : Fl va) (fq : Fl q0) : aZ xa 21 [.agg ⟨[.int .i64 N, vx, vy, va]⟩, .int .i64 mk, .int .i64 nd, .agg ⟨[q0, .int .i64 f, .int .i64 t, .int .i64 a]⟩] h0 (.int .i64 (dQ N nd mk f t)) := by
 have S := Si ok
 refine ae (n := 40) (rs := [.tmp 8]) rfl Tryz.e21 rfl rfl rfl (lbt rfl) ?_
 simp only [BS, Nat.reduceLT]
 refine am (bz (by intro x e; cases e)) S ?_; clear S; intro h b4 S n_b4; simp only [ag] at S
 simp only [BS, Nat.reduceLT, Nat.reduceEqDiff, if_false]
 refine am (bz (by intro x e; cases e)) S ?_; clear S; intro h b7 S n_b7; simp only [ag] at S
 unfold dQ
 by_cases f0 : f < 0
 . simp only [BS, LB, ac, Nat.reduceLT, Nat.reduceEqDiff, Tryz.FFb521, f0, S.ld (b := b7) (o := 1) m0 rfl]
   rw [if_pos (by omega)]
   exact ⟨rfl, S.gr⟩
 . by_cases f1 : (N : Int) <= f
   . simp only [BS, LB, ac, Nat.reduceLT, Nat.reduceEqDiff, Tryz.FFb521, f0, f1, S.ld (b := b7) (o := 1) m0 rfl, S.ld (b := b4) (o := 0) m1 rfl]
     rw [if_pos (by omega)]
     exact ⟨rfl, S.gr⟩
   . rw [if_neg (by omega)]
     by_cases t0 : t < 0
     . simp only [BS, LB, ac, Nat.reduceLT, Nat.reduceEqDiff, Tryz.FFb521, f0, f1, t0, S.ld (b := b7) (o := 1) m0 rfl, S.ld (b := b7) (o := 2) m0 rfl, S.ld (b := b4) (o := 0) m1 rfl]
       rw [if_pos (by omega)]
       exact ⟨rfl, S.gr⟩
     . by_cases t1 : (N : Int) <= t
       . simp only [BS, LB, ac, Nat.reduceLT, Nat.reduceEqDiff, Tryz.FFb521, f0, f1, t0, t1, S.ld (b := b7) (o := 1) m0 rfl, S.ld (b := b7) (o := 2) m0 rfl, S.ld (b := b4) (o := 0) m1 rfl]
         rw [if_pos (by omega)]
         exact ⟨rfl, S.gr⟩
       . rw [if_neg (by omega)]
         by_cases k1 : (mk : Int) < 1
         . simp only [BS, LB, ac, Nat.reduceLT, Nat.reduceEqDiff, Tryz.FFb521, f0, f1, t0, t1, k1, S.ld (b := b7) (o := 1) m0 rfl, S.ld (b := b7) (o := 2) m0 rfl, S.ld (b := b4) (o := 0) m1 rfl]
           rw [if_neg (by omega)]
           exact ⟨rfl, S.gr⟩
         . by_cases n1 : nd = N
           . have n2 : (nd : Int) = (N : Int) := by omega
             simp only [BS, LB, ac, Nat.reduceLT, Nat.reduceEqDiff, Tryz.FFb521, f0, f1, t0, t1, k1, n2, S.ld (b := b7) (o := 1) m0 rfl, S.ld (b := b7) (o := 2) m0 rfl, S.ld (b := b4) (o := 0) m1 rfl]
             rw [if_pos ⟨by omega, n1⟩]
             exact ⟨rfl, S.gr⟩
           . have n2 : ¬ (nd : Int) = (N : Int) := by omega
             simp only [BS, LB, ac, Nat.reduceLT, Nat.reduceEqDiff, Tryz.FFb521, f0, f1, t0, t1, k1, n2, S.ld (b := b7) (o := 1) m0 rfl, S.ld (b := b7) (o := 2) m0 rfl, S.ld (b := b4) (o := 0) m1 rfl]
             rw [if_neg (fun h => n1 h.2)]
             exact ⟨rfl, S.gr⟩
theorem places_ok {h0 : Hp} (ok : h0.t.Sized h0.n) {vB vM vN : Value} {w0 w1 w2 w3 : Int} {ms : List Int} (fB : Fl vB) (hM : SlW h0 .u8 vM ms) (hMr : ∀ x ∈ ms, 0 <= x /\ x <= 255) (hml : ms.length <= 9223372036854775807) (fN : Fl vN) {N : Nat} (n1 : 1 <= N) (n2 : N <= 100) :
 Ret xa 12 [.agg ⟨[vB, vM, .int .i64 w0, .int .i64 w1, .int .i64 w2, .int .i64 w3, vN]⟩, .int .i64 N] h0 fun r h' => Gr h0 h' /\ ∃ l, ax h' 1 (encI .i64) r l /\ ij N l /\ 1 <= l.length /\ l.length <= 6 /\ ∀ c, av r c -> h0.n <= c := by
 have S := Si ok
 have fM := hM.sl.fl
 have nz : (N : Int) ≠ 0 := by omega
 refine ae (n := 58) (rs := [.tmp 4]) rfl Tryz.e12 rfl rfl rfl (lbt rfl) ?_
 simp only [BS, Nat.reduceLT]
 refine am (bz (by intro x e; cases e)) S ?_; clear S; intro h b2 S n_b2; simp only [ag] at S
 have l1 := (S.row (b := b2) m0).load1 (o := 1) rfl
 have g0 := S.gr
 have okF := S.ok
 have kF := S.fr.n
 clear S
 rename Hp => hF
 have S := Si okF
 replace S := S.nilG (k := 1)
 have slM := hM.sl.gr g0
 simp only [BS]
 refine bg (fun (i : Nat) ρ h => i <= ms.length /\ ∃ (vR : Value) (l : List Int), St NoM hF h [] [(vR, 1, ints l)] /\ ij N l /\ l.length <= 6 /\ ρ 1 = .int .i64 N /\ ρ 2 = ptrTo b2 /\ ρ 5 = vR /\ ρ 6 = .int .i64 i) (fun i => ms.length - i) ?_ 0 _ _ ?_
 . clear S
   intro i ih ρ h ⟨hi, vR, l, S, hl, hl6, r1, r2, r5, r6⟩
   have sR : ax h 1 (encI .i64) vR l := (S.gown _ m0).1.sl rfl (fun _ => rfl) (by decide)
   have l1' := S.old l1 (fun h => h)
   by_cases hgo : i < ms.length /\ l.length < 6
   . obtain ⟨hlt, hlt6⟩ := hgo
     have c6 : (l.length : Int) < 6 := by omega
     have w : ar .i64 ((i : Int) + 1) = ((i + 1 : Nat) : Int) := by rw [wrap64] <;> omega
     obtain ⟨c, o, hidx, hld⟩ := (slM.gr S.gr).ix (kd := .i64) (dG .u8) hlt
     have hx := hMr _ (xL hlt)
     obtain ⟨x, ex⟩ : ∃ x : Nat, ms[i] = x := ⟨ms[i].toNat, by omega⟩
     rw [ex] at hld hx
     have wc : ar .i64 (x : Int) = (x : Int) := by rw [wrap64] <;> omega
     have tm : (x : Int).tmod (N : Int) = ((x % N : Nat) : Int) := by rw [Int.tmod_eq_emod_of_nonneg (by omega)]; exact (Int.natCast_emod _ _).symm
     have hmod : x % N < N := Nat.mod_lt _ (by omega)
     simp only [BS, LB, iS, bQ, iQ, Nat.reduceLT, Nat.reduceEqDiff, Tryz.FFb512, r1, r2, r5, r6, l1', hM.sl.lenq, sR.lenq, aJ, hlt, c6, hidx, hld, encI, wc, b_rem nz, tm]
     generalize x % N = v at hmod
     have gI := S.gr
     have S0 := S
     refine bg (fun (k : Nat) ρ h' => k <= l.length /\ h' = h /\ ρ 1 = .int .i64 N /\ ρ 2 = ptrTo b2 /\ ρ 5 = vR /\ ρ 6 = .int .i64 i /\ ρ 7 = .int .i64 v /\ ρ 8 = .bool (decide ((v : Int) ∈ l.take k)) /\ ρ 9 = .int .i64 k) (fun k => l.length - k) ?_ 0 _ _ ?_
     . clear r1 r2 r5 r6
       rintro k ihk ρ h' ⟨hk, rfl, r1, r2, r5, r6, r7, r8, r9⟩
       have wk : ar .i64 ((k : Int) + 1) = ((k + 1 : Nat) : Int) := by rw [wrap64] <;> omega
       by_cases hkt : k < l.length
       . have tk : l.take (k + 1) = l.take k ++ [l[k]] := xt hkt
         by_cases hm : (v : Int) ∈ l.take k
         . rw [decide_eq_true hm] at r8
           have m1' : (v : Int) ∈ l.take (k + 1) := by rw [tk]; exact List.mem_append_left _ hm
           simp only [BS, LB, Nat.reduceLT, Nat.reduceEqDiff, Tryz.FFb512, r5, r8, r9, sR.lenq, aJ, hkt, wk]
           exact ihk (k + 1) _ _ (by omega) ⟨by omega, rfl, by simp [aa, r1], by simp [aa, r2, ab], by simp [aa, r5], by simp [aa, r6], by simp [aa, r7], by simp [aa, m1'], by simp [aa]⟩
         . rw [decide_eq_false hm] at r8
           obtain ⟨c1, o1, i1, y1⟩ := sR.ix (kd := .i64) (dG .i64) hkt
           by_cases he : l[k] = (v : Int)
           . have m1' : (v : Int) ∈ l.take (k + 1) := by rw [tk, he]; exact xM _ (List.mem_singleton.2 rfl)
             simp only [BS, LB, Nat.reduceLT, Nat.reduceEqDiff, Tryz.FFb512, r5, r7, r8, r9, sR.lenq, aJ, hkt, wk, i1, y1, encI, he]
             exact ihk (k + 1) _ _ (by omega) ⟨by omega, rfl, by simp [aa, r1], by simp [aa, r2, ab], by simp [aa, r5], by simp [aa, r6], by simp [aa, r7], by simp [aa, m1'], by simp [aa]⟩
           . have m2' : ¬ (v : Int) ∈ l.take (k + 1) := by
              rw [tk]
              intro h
              rcases List.mem_append.1 h with h | h
              . exact hm h
              . exact he (List.mem_singleton.1 h).symm
             simp only [BS, LB, Nat.reduceLT, Nat.reduceEqDiff, Tryz.FFb512, r5, r7, r8, r9, sR.lenq, aJ, hkt, wk, i1, y1, encI, he]
             exact ihk (k + 1) _ _ (by omega) ⟨by omega, rfl, by simp [aa, r1], by simp [aa, r2, ab], by simp [aa, r5], by simp [aa, r6], by simp [aa, r7], by simp [aa, m2'], by simp [aa]⟩
       . have ek : k = l.length := by omega
         subst ek
         rw [List.take_length] at r8
         by_cases hm : (v : Int) ∈ l
         . rw [decide_eq_true hm] at r8
           simp only [BS, LB, Nat.reduceLT, Nat.reduceEqDiff, Tryz.FFb512, r5, r6, r8, r9, sR.lenq, aJ, hkt, w]
           exact ih (i + 1) _ _ (by omega) ⟨by omega, vR, l, S, hl, hl6, by simp [aa, r1], by simp [aa, r2, ab], by simp [aa, r5], by simp [aa]⟩
         . rw [decide_eq_false hm] at r8
           simp only [BS, LB, Nat.reduceLT, Nat.reduceEqDiff, Tryz.FFb512, r5, r6, r7, r8, r9, sR.lenq, aJ, hkt]
           refine am (bM (by exact xB) (by exact xF) (by decide) (by rfl)) S ?_; clear S; intro h bt S n_bt; simp only [LC, aP, bD, ag, Nat.reduceMul, Nat.reduceAdd, xq, xu, xl, xx] at S
           simp only [BS, LB, Nat.reduceLT, Nat.reduceEqDiff]
           have src : aN h 1 (.slice (some ⟨bt, 0, none⟩) 1 1) = some (1, ints [(v : Int)]) := by simp only [aN]; rw [S.lds (b := bt) (o := 0) (n := 1 * 1) m0 (lbt rfl)]; rfl
           replace S := S.drop1
           refine ep (S.grow (j := 0) (m := 1) (new := ints [(v : Int)]) rfl xB xF (by decide) Tryz.n40 src rfl (by decide) rfl (by rw [dW, dW]; simp; omega)) ?_
           clear S src; rintro h vR' S
           simp only [LC] at S
           rw [<- mW] at S
           simp only [BS, LB, Nat.reduceLT, Nat.reduceEqDiff, r6, w]
           exact ih (i + 1) _ _ (by omega) ⟨by omega, vR', l ++ [(v : Int)], S, hl.push (by omega) (by omega) (by omega) hm, by simp; omega, by simp [aa, r1], by simp [aa, r2, ab], by simp [aa], by simp [aa]⟩
     . exact ⟨xk _, rfl, by simp [aa, r1], by simp [aa, r2, ab], by simp [aa, r5], by simp [aa, r6], by simp [aa], by simp [aa], by simp [aa]⟩
   . have nR : ∀ c, av vR c -> h0.n <= c := fun c hb => xh kF (((S.gblk m0 hb).1).elim (fun h => h) (fun h => h.elim))
     by_cases hlt : i < ms.length
     . have c6 : ¬ (l.length : Int) < 6 := by omega
       have c0 : ¬ (l.length : Int) = 0 := by omega
       simp only [BS, LB, ac, Nat.reduceLT, Nat.reduceEqDiff, Tryz.FFb512, r2, r5, r6, l1', hM.sl.lenq, sR.lenq, aJ, hlt, c6, c0]
       exact ⟨g0.trans S.gr, l, sR, hl, by omega, hl6, nR⟩
     . by_cases hz : l.length = 0
       . have c0 : (l.length : Int) = 0 := by omega
         have eq : ar .i64 ((N : Int).tdiv 2) = ((N / 2 : Nat) : Int) := by
          rw [Int.tdiv_eq_ediv_of_nonneg (by omega), wrap64] <;> omega
         simp only [BS, LB, Nat.reduceLT, Nat.reduceEqDiff, Tryz.FFb512, r1, r2, r5, r6, l1', hM.sl.lenq, sR.lenq, aJ, hlt, c0, oG (n := 2) (by decide), eq]
         refine am (bM (by exact xB) (by exact xF) (by decide) (by rfl)) S ?_; clear S; intro h bt S n_bt; simp only [LC, aP, bD, ag, Nat.reduceMul, Nat.reduceAdd, xq, xu, xl, xx] at S
         simp only [BS, LB, ac, Nat.reduceLT, Nat.reduceEqDiff]
         refine ⟨g0.trans S.gr, [((N / 2 : Nat) : Int)], .inr ⟨bt, 0, none, 1, rfl, xp _, S.lds (b := bt) (o := 0) (n := 1 * 1) m0 (lbt rfl)⟩, (pB N).push (by simp) (by omega) (by omega) (by simp), by simp, by simp, fun c hb => ?_⟩
         have e : c = bt := hb.symm
         omega
       . have c0 : ¬ (l.length : Int) = 0 := by omega
         simp only [BS, LB, ac, Nat.reduceLT, Nat.reduceEqDiff, Tryz.FFb512, r2, r5, r6, l1', hM.sl.lenq, sR.lenq, aJ, hlt, c0]
         exact ⟨g0.trans S.gr, l, sR, hl, by omega, hl6, nR⟩
 . exact ⟨xk _, _, [], S, pB _, xk _, by simp [aa, cw], by simp [aa, ab], by simp [aa], by simp [aa]⟩
open Tryz in
def Tryz.FFb65 := aj a1 <| aj s1 <| aj z1 <| aj n1 <| aj u2 <| aj a2 <| aj s2 <| aj z2 <| aj i2 <| aj u3 <| aj a3 <| aj s3 <| aj z3 <| aj i3 <| aj u4 <| aj a4 <| aj s4 <| aj z4 <| aj n4 <| aj u5 <| aj a5 <| aj s5 <| aj z5 <| aj i5 <| aj u6 <| aj a6 <| aj s6 <| aj z6 <| aj i6 <| aj a7 <| aj s7 <| aj z7 <| aj i7 <| aj n7 <| aj p7 <| aj ff7 <| aj d7 <| aj a8 <| aj s8 <| aj z8 <| aj i8 <| aj n8 <| aj p8 <| aj ff8 <| aj d8 <| aj u9 <| aj a9 <| aj s9 <| aj z9 <| aj n9 <| aj u10 <| aj a10 <| aj s10 <| aj z10 <| aj n10 <| aj u11 <| aj a11 <| aj s11 <| aj z11 <| aj n11 <| aj u12 <| aj a12 <| aj s12 <| aj z12 <| aj i12 <| aj a13 <| aj s13 <| aj z13 <| aj i13 <| aj n13 <| aj p13 <| aj ff13 <| aj d13 <| aj a14 <| aj s14 <| aj z14 <| aj i14 <| aj n14 <| aj p14 <| aj ff14 <| aj d14 <| aj u15 <| aj a15 <| aj s15 <| aj z15 <| aj q15 <| aj i15 <| aj n15 <| aj u16 <| aj a16 <| aj s16 <| aj z16 <| aj q16 <| aj i16 <| aj n16 <| aj u17 <| aj a17 <| aj s17 <| aj z17 <| aj q17 <| aj i17 <| aj n17 <| aj a18 <| aj s18 <| aj z18 <| aj i18 <| aj n18 <| aj p18 <| aj ff18 <| aj d18 <| aj a19 <| aj s19 <| aj z19 <| aj i19 <| aj n19 <| aj p19 <| aj ff19 <| aj d19 <| aj a20 <| aj s20 <| aj z20 <| aj q20 <| aj n20 <| aj u21 <| aj a21 <| aj s21 <| aj z21 <| aj i21 <| aj u22 <| aj a22 <| aj s22 <| aj z22 <| aj q22 <| aj n22 <| aj a23 <| aj s23 <| aj z23 <| aj i23 <| aj n23 <| aj p23 <| aj ff23 <| aj d23 <| aj a24 <| aj s24 <| aj z24 <| aj i24 <| aj n24 <| aj p24 <| aj ff24 <| aj d24 <| aj u25 <| aj a25 <| aj s25 <| aj z25 <| aj q25 <| aj n25 <| aj a26 <| aj s26 <| aj z26 <| aj i26 <| aj n26 <| aj p26 <| aj ff26 <| aj d26 <| aj a27 <| aj s27 <| aj z27 <| aj i27 <| aj n27 <| aj p27 <| aj ff27 <| aj d27 <| aj u28 <| aj a28 <| aj s28 <| aj z28 <| aj q28 <| aj n28 <| aj a30 <| aj s30 <| aj z30 <| aj i30 <| aj n30 <| aj p30 <| aj ff30 <| aj d30 <| aj u32 <| aj a32 <| aj s32 <| aj z32 <| aj q32 <| aj i32 <| aj n32 <| aj a34 <| aj s34 <| aj z34 <| aj q34 <| aj n34 <| aj u38 <| aj a38 <| aj s38 <| aj z38 <| aj q38 <| aj i38 <| aj n38 <| aj u40 <| aj a40 <| aj s40 <| aj z40 <| aj q40 <| aj n40 <| aj u44 <| aj a44 <| aj s44 <| aj z44 <| aj i44 <| aj a46 <| aj s46 <| aj z46 <| aj i46 <| aj n46 <| aj p46 <| aj ff46 <| aj d46 <| aj u47 <| aj a47 <| aj s47 <| aj z47 <| aj q47 <| aj n47 <| aj a57 <| aj s57 <| aj z57 <| aj i57 <| aj n57 <| aj p57 <| aj ff57 <| aj d57 <| aj a59 <| aj s59 <| aj z59 <| aj i59 <| aj n59 <| aj p59 <| aj ff59 <| aj d59 <| aj u61 <| aj a61 <| aj s61 <| aj z61 <| aj q61 <| aj i61 <| aj n61 <| aj a63 <| aj s63 <| aj z63 <| aj i63 <| aj n63 <| aj p63 <| aj ff63 <| aj d63 <| aj u64 <| aj a64 <| aj s64 <| aj z64 <| aj n64 <| aj u71 <| aj a71 <| aj s71 <| aj z71 <| aj q71 <| aj n71 <| aj a96 <| aj s96 <| aj z96 <| aj i96 <| aj n96 <| aj p96 <| aj ff96 <| aj d96 <| aj u146 <| aj a146 <| aj s146 <| aj z146 <| aj q146 <| aj n146 <| aj a148 <| aj s148 <| aj z148 <| aj i148 <| aj n148 <| aj p148 <| aj ff148 <| aj d148 <| aj u197 <| aj a197 <| aj s197 <| aj z197 <| aj i197 <| aj u263 <| aj a263 <| aj s263 <| aj z263 <| aj i263 <| aj a274 <| aj s274 <| aj z274 <| aj i274 <| aj n274 <| aj p274 <| aj ff274 <| aj d274 <| aj u275 <| aj a275 <| aj s275 <| aj z275 <| aj n275 <| aj a277 <| aj s277 <| aj z277 <| aj i277 <| aj n277 <| aj u279 <| aj a279 <| aj s279 <| aj z279 <| aj i279 <| aj a280 <| aj s280 <| aj z280 <| aj n280 <| aj u281 <| aj a281 <| aj s281 <| aj z281 <| aj q281 <| aj i281 <| aj n281 <| aj u282 <| aj a282 <| aj s282 <| aj z282 <| aj i282 <| aj u283 <| aj a283 <| aj s283 <| aj z283 <| aj i283 <| aj a285 <| aj s285 <| aj z285 <| aj i285 <| aj n285 <| aj p285 <| aj ff285 <| d285
theorem vJ {h0 : Hp} (ok : h0.t.Sized h0.n) : aZ xa 10 [] h0 (.bool true) := ret_orc rfl ⟨rfl, Gr.refl ok⟩
theorem lq (B : List Arc) (N s : Nat) : (rowD B N s).length = N := by simp [rowD]
theorem twoQ_at {a0 a1 a2 a3 b0 b1 b2 b3 : Value} {i : Nat} (hi : i < 2) : kg xa 64 (.agg ⟨[a0, a1, a2, a3, b0, b1, b2, b3]⟩) (.int .i64 (i : Nat)) = some (.agg ⟨if i = 0 then [a0, a1, a2, a3] else [b0, b1, b2, b3]⟩) := by
 rcases (by omega : i = 0 \/ i = 1) with rfl | rfl <;> rfl
theorem twoQ_of {a0 a1 a2 a3 b0 b1 b2 b3 : Value} : js xa 64 [(0, .agg ⟨[a0, a1, a2, a3]⟩), (1, .agg ⟨[b0, b1, b2, b3]⟩)] = some (.agg ⟨[a0, a1, a2, a3, b0, b1, b2, b3]⟩) := rfl
theorem SlW.gr {h h' : Hp} {kd : IntKind} {v : Value} {xs : List Int} (s : SlW h kd v xs) (g : Gr h h') : SlW h' kd v xs := s.imp (fun h => h) (fun ⟨b, o, c, h1, h2, h3⟩ => ⟨b, o, c, h1, h2, g.load h3⟩)
theorem v8 {N nd a b : Nat} {f t : Int} (ha : 0 < a) (hb : 0 < b) : dQ N nd a f t = dQ N nd b f t := by
 unfold dQ
 simp only [ha, hb, true_and]
theorem mF {h0 : Hp} (ok : h0.t.Sized h0.n) {bp nb nd : Nat} {γ : Gra} (hγ : Good γ) (hn : bN h0 nb (ptrTo bp) γ) {pt q0 : Value} {l : List Int} {R Q : Nat -> List Int} (T : kk h0 pt nd l R Q) (hl : l.length <= 16) (fq : Fl q0) {f t a C : Int} (hC : dQ γ.nodes nd l.length f t = C) :
 Ret xa 15 [ptrTo bp, pt, .agg ⟨[q0, .int .i64 f, .int .i64 t, .int .i64 a]⟩] h0 fun r h' => Gr h0 h' /\ ∃ c d vA vB vE, r = .tuple #[ansV c d vA vB, vE] /\ Fl vA /\ Fl vB /\ Fl vE /\ ((C ≠ 0 /\ c = C /\ d = 0 /\ vA = .slice none 0 0 /\ vB = .slice none 0 0 /\ vE = .slice none 0 0) \/ (C = 0 /\ (c = 0 \/ c = 20))) := by
 refine (altRun_ok ok hγ hn T hl fq (f := f) (t := t) (a := a)).mono fun r h' ⟨g, c, d, vA, vB, vE, e, post⟩ => ⟨g, c, d, vA, vB, vE, e, ?_⟩
 rw [hC] at post
 rcases post with ⟨_, p1, p2, p3, p4, p5⟩ | ⟨p0, _, _, _, _, _, _, _, _, _, _, sE, ⟨_, q1, q2, q3, q4⟩ | ⟨_, q1, q2, q3, q4⟩⟩
 . refine ⟨by rw [p3]; exact bF, by rw [p4]; exact bF, by rw [p5]; exact bF, ?_⟩
   by_cases hz : C = 0
   . exact .inr ⟨hz, .inl (p1.trans hz)⟩
   . exact .inl ⟨hz, p1, p2, p3, p4, p5⟩
 . exact ⟨by rw [q3]; exact bF, by rw [q4]; exact bF, sE.fl, .inr ⟨p0, .inr q1⟩⟩
 . exact ⟨q3.fl, q4.fl, sE.fl, .inr ⟨p0, .inl q1⟩⟩
theorem TabAt.q {h : Hp} {m nd : Nat} {pt : Value} {l : List Int} {R Q : Nat -> List Int} (t : TabAt h m pt nd l R Q) (lR : ∀ i, i < l.length -> (R i).length = nd) (lQ : ∀ i, i < l.length -> (Q i).length = nd) : kk h pt nd l R Q := .inl ⟨m, t, lR, lQ⟩
theorem qV {h0 : Hp} (ok : h0.t.Sized h0.n) {vB vM vN vO : Value} {w0 f t a : Int} {B ms O : List Int} (hB : SlW h0 .u8 vB B) (hM : SlW h0 .u8 vM ms) (hMr : ∀ x ∈ ms, 0 <= x /\ x <= 255) (hml : ms.length <= 9223372036854775807) (fN : Fl vN) (hO : SlW h0 .u8 vO O) :
 aZ xa 5 [.agg ⟨[vB, vM, .int .i64 w0, .int .i64 f, .int .i64 t, .int .i64 a, vN]⟩, vO] h0 (.bool true) := by
 have S := Si ok
 have fB := hB.sl.fl
 have fM := hM.sl.fl
 have fO := hO.sl.fl
 refine ae (n := 163) (rs := [.tmp 4]) rfl Tryz.e5 rfl rfl rfl (lbt rfl) ?_
 simp only [BS, Nat.reduceLT]
 refine am (bz (by intro x e; cases e)) S ?_; clear S; intro h b2 S n_b2; simp only [ag] at S
 simp only [BS, LB, Nat.reduceLT, Nat.reduceEqDiff, Tryz.FFb65, xC, xJ, xN, S.lds (b := b2) (o := 0) (n := 7) m0 (lbt rfl)]
 refine step_ret (v9 S.ok (hB.gr S.gr) fM fN) ?_; intro v h ⟨g, γ, vx, vy, va, er, hγ, ga, _⟩; replace S := S.call g; clear g
 subst er
 have fx := ga.X.fl
 have fy := ga.Y.fl
 have fa := ga.A.fl
 have R2 := S.row (b := b2) m0
 have g0 := S.gr
 have okA := S.ok
 clear S
 have S := Si okA
 simp only [BS, Tryz.FFb65, hI]
 refine am ay S ?_; clear S; intro h b5 S n_b5
 simp only [BS, LB, Nat.reduceLT, Nat.reduceEqDiff]
 refine aB (S.store (i := 0) rfl xT (by intro x e; cases e) rfl (by simp only [ag, xo, xr, fx.2.1, fy.2.1, fa.2.1, xd]; rfl) (lbt rfl) ono) ?_
 clear S; rintro h ⟨S, mo⟩; clear mo
 simp only [LC, ag, lay, xi, xj, Nat.reduceAdd] at S
 have R5 := S.row (b := b5) m0
 replace R2 := R2.gr S.gr
 replace ga := ga.gr S.gr
 replace g0 := g0.trans S.gr
 have okA := S.ok
 clear S
 have S := Si okA
 have hO1 := hO.gr g0
 have mn : min (O.length : Int) 60 = ((min O.length 60 : Nat) : Int) := by omega
 obtain ⟨vO', hsl, sO, bO⟩ := hO1.low (kd' := .i64) (n := min O.length 60) Tryz.u22 Tryz.s5 (Nat.min_le_left _ _)
 have fO' := sO.fl
 simp only [BS, LB, Nat.reduceLT, Nat.reduceEqDiff, Nat.reduceAdd, xG, xH, Tryz.FFb65, hO.sl.lenq, mn, hsl, fO']
 refine am (bz (by intro x e; cases e)) S ?_; clear S; intro h bd S n_bd; simp only [ag] at S
 have hO' : ax h 1 (encI .u8) vO' (O.take (min O.length 60)) := sO.gr S.gr
 have nO : ¬ av vO' bd := fun hc => by have := sO.lt okA hc; omega
 have lo' : (O.take (min O.length 60)).length < 1000000 := by rw [xe]; omega
 simp only [BS, LB, Nat.reduceLT, Nat.reduceEqDiff]
 have ndb := n_bd
 refine step_ret (raw_ok S.ok (S.row m0) ⟨hO', nO, lo', by omega⟩) ?_
 rintro v h ⟨fr, δ, wx, wy, wa, rfl, hδ, gb, hz⟩
 replace S := S.drop1.step fr (fun c hc => by subst hc; exact .inr n_bd) (fun c hc e => by simp [keys] at hc)
 have fx' := gb.X.fl
 have fy' := gb.Y.fl
 have fa' := gb.A.fl
 replace R2 := R2.gr S.gr
 replace R5 := R5.gr S.gr
 replace ga := ga.gr S.gr
 replace g0 := g0.trans S.gr
 have okA := S.ok
 clear S
 have S := Si okA
 simp only [BS, Tryz.FFb65, hI]
 refine am ay S ?_; clear S; intro h b7 S n_b7
 simp only [BS, LB, Nat.reduceLT, Nat.reduceEqDiff]
 refine aB (S.store (i := 0) rfl xT (by intro x e; cases e) rfl (by simp only [ag, xo, xr, fx'.2.1, fy'.2.1, fa'.2.1, xd]; rfl) (lbt rfl) ono) ?_
 clear S; rintro h ⟨S, mo⟩; clear mo
 simp only [LC, ag, lay, xi, xj, Nat.reduceAdd] at S
 have R7 := S.row (b := b7) m0
 replace R2 := R2.gr S.gr
 replace R5 := R5.gr S.gr
 replace ga := ga.gr S.gr
 replace gb := gb.gr S.gr
 replace g0 := g0.trans S.gr
 have okA := S.ok
 clear S
 have S := Si okA
 have l5 : h.load b5 0 4 = some [.int .i64 γ.nodes, vx, vy, va] := R5.load (xp 4)
 simp only [BS, LB, Nat.reduceLT, Nat.reduceEqDiff, Tryz.FFb65, l5]
 refine step_ret (rf S.ok hγ (ga.gr S.gr)) ?_
 rintro v h ⟨p, rfl, g, hp⟩
 obtain ⟨bp, rfl⟩ : ∃ b, p = ptrTo b := by obtain ⟨b, _, _, _, _, _, e, _⟩ := hp.ex; exact ⟨b, e⟩
 replace S := S.call g
 replace gb := gb.gr S.gr
 replace R7 := R7.gr S.gr
 have l7 : h.load b7 0 4 = some [.int .i64 δ.nodes, wx, wy, wa] := R7.load (xp 4)
 simp only [BS, LB, Nat.reduceLT, Nat.reduceEqDiff, Tryz.FFb65, l7]
 clear g
 refine step_ret (rf S.ok hδ gb) ?_
 rintro v h ⟨p, rfl, g, hq⟩
 obtain ⟨bq, rfl⟩ : ∃ b, p = ptrTo b := by obtain ⟨b, _, _, _, _, _, e, _⟩ := hq.ex; exact ⟨b, e⟩
 replace S := S.call g
 replace hp := hp.gr g
 replace R7 := R7.gr g
 clear g l5 l7 ga gb
 simp only [BS, LB, Nat.reduceLT, Nat.reduceEqDiff, Tryz.FFb65]
 refine aq (vJ S.ok) ?_
 intro h g
 replace S := S.call g
 replace hp := hp.gr g
 replace hq := hq.gr g
 replace R7 := R7.gr g
 replace R2 := R2.gr S.gr
 replace R5 := R5.gr S.gr
 replace g0 := g0.trans S.gr
 have okA := S.ok
 clear S g
 have S := Si okA
 have l2 : h.load b2 2 4 = some [.int .i64 w0, .int .i64 f, .int .i64 t, .int .i64 a] := R2.load (o := 2) (n := 4) (lbt rfl)
 simp only [BS, LB, Nat.reduceLT, Nat.reduceEqDiff, Tryz.FFb65, l2]
 refine am ay S ?_; clear S; intro h b12 S n_b12
 simp only [BS, LB, Nat.reduceLT, Nat.reduceEqDiff]
 refine aB (S.store (i := 0) rfl Tryz.s24 (by intro x e; cases e) rfl rfl (lbt rfl) ono) ?_
 clear S; rintro h ⟨S, mo⟩; clear mo
 simp only [LC, ag, lay, xi, xj, Nat.reduceAdd] at S
 simp only [BS, LB, Nat.reduceLT, Nat.reduceEqDiff, Nat.reduceAdd, Tryz.FFb65, b_rem (n := 16) (by decide), S.ld (b := b12) (o := 1) m0 rfl, S.ld (b := b12) (o := 2) m0 rfl, S.ld (b := b12) (o := 3) m0 rfl]
 refine am ay S ?_; clear S; intro h b13 S n_b13
 simp only [BS, LB, Nat.reduceLT, Nat.reduceEqDiff]
 refine aB (S.store (i := 0) rfl Tryz.s24 (by intro x e; cases e) rfl rfl (lbt rfl) ono) ?_
 clear S; rintro h ⟨S, mo⟩; clear mo
 simp only [LC, ag, lay, xi, xj, Nat.reduceAdd] at S
 simp only [BS, LB, Nat.reduceLT, Nat.reduceEqDiff, Tryz.FFb65, xC, xJ, xN, twoQ_of, S.lds (b := b12) (o := 0) (n := 4) m1 (lbt rfl), S.lds (b := b13) (o := 0) (n := 4) m0 (lbt rfl)]
 have R12 := S.row (b := b12) m1
 have g1 := S.gr
 have okB := S.ok
 replace R2 := R2.gr g1
 replace R5 := R5.gr g1
 replace R7 := R7.gr g1
 replace hp := hp.gr g1
 replace hq := hq.gr g1
 replace g0 := g0.trans g1
 clear S g1 l2 okA
 rename Hp => hL
 have S := Si okB
 refine bg (fun (j : Nat) ρ h' => j <= 2 /\ St NoM hL h' [] [] /\ ρ 2 = ptrTo b2 /\ ρ 5 = ptrTo b5 /\ ρ 7 = ptrTo b7 /\ ρ 8 = ptrTo bp /\ ρ 10 = ptrTo bq /\ ρ 12 = ptrTo b12 /\ ρ 65 = .agg ⟨[.int .i64 w0, .int .i64 f, .int .i64 t, .int .i64 a, .int .i64 0, .int .i64 (f.tmod 16), .int .i64 (t.tmod 16), .int .i64 a]⟩ /\ ρ 66 = .int .i64 j) (fun j => 2 - j) ?_ 0 _ _ ?_
 . clear S
   intro j ih ρ h ⟨hj, S, r2, r5, r7, r8, r10, r12, r65, r66⟩
   have wj : ar .i64 ((j : Int) + 1) = ((j + 1 : Nat) : Int) := by rw [wrap64] <;> omega
   by_cases hjt : j < 2
   . have c2 : (j : Int) < 2 := by omega
     have hix := twoQ_at (a0 := .int .i64 w0) (a1 := .int .i64 f) (a2 := .int .i64 t) (a3 := .int .i64 a) (b0 := .int .i64 0) (b1 := .int .i64 (f.tmod 16)) (b2 := .int .i64 (t.tmod 16)) (b3 := .int .i64 a) hjt
     obtain ⟨yw, yf, yt, ya, ey⟩ : ∃ yw yf yt ya : Int, (if j = 0 then [Value.int .i64 w0, .int .i64 f, .int .i64 t, .int .i64 a] else [.int .i64 0, .int .i64 (f.tmod 16), .int .i64 (t.tmod 16), .int .i64 a]) = [.int .i64 yw, .int .i64 yf, .int .i64 yt, .int .i64 ya] := by split <;> exact ⟨_, _, _, _, rfl⟩
     rw [ey] at hix
     clear ey
     simp only [BS, LB, Nat.reduceLT, Nat.reduceEqDiff, Tryz.FFb65, r65, r66, c2, hix]
     refine am ay S ?_; clear S; intro h b15 S n_b15
     simp only [BS, LB, Nat.reduceLT, Nat.reduceEqDiff]
     refine aB (S.store (i := 0) rfl Tryz.s24 (by intro x e; cases e) rfl rfl (lbt rfl) ono) ?_
     clear S; rintro h ⟨S, mo⟩; clear mo
     simp only [LC, ag, lay, xi, xj, Nat.reduceAdd] at S
     simp only [BS]
     have R15 := S.row (b := b15) m0
     have gK := S.gr
     have okK := S.ok
     have hp' := hp.gr gK
     have hq' := hq.gr gK
     have g0' := g0.trans gK
     have l2 : h.load b2 0 7 = some [vB, vM, .int .i64 w0, .int .i64 f, .int .i64 t, .int .i64 a, vN] := (R2.gr gK).load (xp 7)
     have l5 : h.load b5 0 4 = some [.int .i64 γ.nodes, vx, vy, va] := (R5.gr gK).load (xp 4)
     have l50 := (R5.gr gK).load1 (o := 0) rfl
     have l70 := (R7.gr gK).load1 (o := 0) rfl
     have l15 : h.load b15 0 4 = some [.int .i64 yw, .int .i64 yf, .int .i64 yt, .int .i64 ya] := R15.load (xp 4)
     have n1 := hγ.n1
     have n2 := hγ.n2
     have d1 := hδ.n1
     have d2 := hδ.n2
     clear S
     have S := Si okK
     rename Hp => hK
     refine bg (fun (k : Nat) ρ h' => k <= 3 /\ St NoM hK h' [] [] /\ ρ 2 = ptrTo b2 /\ ρ 5 = ptrTo b5 /\ ρ 7 = ptrTo b7 /\ ρ 8 = ptrTo bp /\ ρ 10 = ptrTo bq /\ ρ 12 = ptrTo b12 /\ ρ 15 = ptrTo b15 /\ ρ 16 = .int .i64 k /\ ρ 65 = .agg ⟨[.int .i64 w0, .int .i64 f, .int .i64 t, .int .i64 a, .int .i64 0, .int .i64 (f.tmod 16), .int .i64 (t.tmod 16), .int .i64 a]⟩ /\ ρ 66 = .int .i64 j) (fun k => 3 - k) ?_ 0 _ _ ?_
     . clear S r2 r5 r7 r8 r10 r65 r66
       intro k ihk ρ h ⟨hk, S, r2, r5, r7, r8, r10, r12, r15, r16, r65, r66⟩
       have wk : ar .i64 ((k : Int) + 1) = ((k + 1 : Nat) : Int) := by rw [wrap64] <;> omega
       by_cases hkt : k < 3
       . have c3 : (k : Int) < 3 := by omega
         have m5 := S.gr.load l5
         simp only [BS, LB, Nat.reduceLT, Nat.reduceEqDiff, Tryz.FFb65, r2, r5, r8, r16, c3, S.gr.load l2, S.gr.load l50]
         refine step_ret (places_ok S.ok fB (hM.gr (g0'.trans S.gr)) hMr hml fN n1 (by omega)) ?_
         rintro vl h ⟨g, l, sl, hl, hl1, hl6, _⟩
         replace S := S.call g; clear g
         simp only [BS, LB, Nat.reduceLT, Nat.reduceEqDiff]
         refine step_ret (tw S.ok hγ (hp'.gr S.gr) sl (by omega)) ?_
         rintro pt h ⟨g, hT⟩
         replace hT := (hT.resolve_left (fun h => h.1 hl)).2
         obtain ⟨bt, et⟩ : ∃ b, pt = ptrTo b := by obtain ⟨b, _, _, _, e, _⟩ := hT.ex; exact ⟨b, e⟩
         subst et
         replace S := S.call g; clear g
         simp only [BS, LB, Nat.reduceLT, Nat.reduceEqDiff, Tryz.FFb65, r5, r15, S.gr.load l5, S.gr.load l50, S.gr.load l15]
         refine aq (mz S.ok fx fy fa aY (N := γ.nodes) (mk := 1) (nd := γ.nodes) (f := yf) (t := yt) (a := ya)) ?_
         intro h g
         replace S := S.call g
         replace hT := hT.gr g; clear g
         rw [v8 (b := l.length) Nat.one_pos (by omega)]
         have TT : kk h (ptrTo bt) γ.nodes l (toR γ l) (frR γ l) := hT.q (fun i _ => lq _ _ _) (fun i _ => lq _ _ _)
         rcases (by omega : k = 0 \/ k = 1 \/ k = 2) with hk | hk | hk
         . have e1 : ¬ (k : Int) = 1 := by omega
           have e2 : ¬ (k : Int) = 2 := by omega
           simp only [BS, LB, Nat.reduceLT, Nat.reduceEqDiff, Tryz.FFb65, r8, r15, r16, e1, e2, S.gr.load l15]
           obtain ⟨C, hC⟩ : ∃ C, dQ γ.nodes γ.nodes l.length yf yt = C := ⟨_, rfl⟩
           rw [hC]
           refine step_ret (mF S.ok hγ (hp'.gr S.gr) TT (by omega) aY hC (a := ya)) ?_
           rintro rv h ⟨g, cc, d, vA, vB', vE, rfl, y1, y2, y3, post⟩
           have eW : gH (.pointer (some ⟨bp, 0, none⟩)) γ.nodes γ.nodes l.length yf yt = C := hC
           have eW2 : gH (.pointer (some ⟨bp, 0, none⟩)) γ.nodes γ.nodes l.length yf yt = C := hC
           replace TT := TT.gr g
           replace S := S.call g; clear g
           clear hC
           have nz20 : ¬ (20 : Int) = 0 := by decide
           simp only [BS, LB, Nat.reduceLT, Nat.reduceEqDiff, Tryz.FFb65, ansV]
           have gX := S.gr
           have okX := S.ok
           clear S
           have S := Si okX
           refine am ay S ?_; clear S; intro h b19 S n_b19
           simp only [BS, LB, Nat.reduceLT, Nat.reduceEqDiff]
           refine aB (S.store (i := 0) rfl xy (by intro x e; cases e) rfl (by simp only [ag, xo, xr, y1.2.1, y2.2.1, xd]; rfl) (lbt rfl) ono) ?_
           clear S; rintro h ⟨S, mo⟩; clear mo
           simp only [LC, ag, lay, xi, xj, Nat.reduceAdd] at S
           simp only [BS, LB, Nat.reduceLT, Nat.reduceEqDiff, Tryz.FFb65, r8, r15, (gX.trans S.gr).load l15]
           refine aq (iO S.ok aY (.inl ⟨bp, γ, _, rfl, hp'.gr (gX.trans S.gr), rfl⟩) ((TT.gr S.gr).tabO (by omega)) (f := yf) (t := yt) (a := ya)) ?_
           intro h g
           replace S := S.call g; clear g
           have gE := gX.trans S.gr
           rcases post with ⟨hz, rfl, rfl, rfl, rfl, rfl⟩ | ⟨hz, rfl | rfl⟩
           all_goals
            simp only [BS, LB, Nat.reduceLT, Nat.reduceEqDiff, Int.reduceLT, xg, Tryz.FFb65, r16, eW, hz, nz20, wk, S.ld (b := b19) (o := 0) m0 rfl, S.ld (b := b19) (o := 1) m0 rfl, S.ld (b := b19) (o := 2) m0 rfl, S.ld (b := b19) (o := 3) m0 rfl]
            exact ihk (k + 1) _ _ (by omega) ⟨by omega, (Si okK).call gE, by simp [aa, r2, ab], by simp [aa, r5, ab], by simp [aa, r7, ab], by simp [aa, r8, ab], by simp [aa, r10, ab], by simp [aa, r12, ab], by simp [aa, r15, ab], by simp [aa], by simp [aa, r65], by simp [aa, r66]⟩
         . have e1 : ((k : Int) = 1) = True := eq_true (by omega)
           have z5 := bC okK l5
           have z7 := bC okK l70
           have z15 := bC okK l15
           have gS := S.gr
           simp only [BS, LB, Nat.reduceLT, Nat.reduceEqDiff, r16, e1]
           clear TT hT sl S
           have okS := gS.ok
           have S := Si okS
           refine aC (aI rfl) (q := 2) (ps := [(2, 6), (2, 5), (2, 3)]) (by kernel_rfl) ?_
           simp only [BS, LB, cls, Nat.reduceLT, Nat.reduceEqDiff, Nat.reducePow, Nat.reduceDiv, Nat.reduceMod, Nat.reduceLeDiff, r10]
           refine c9 (bM (by exact xB) (by exact xF) (by decide) (by rfl)) S ?_; clear S; intro h bx S n_bx e_bx; simp only [LC, aP, bD, ag, Nat.reduceMul, Nat.reduceAdd, xq, xu, xl, xx] at S
           have g1 := gS.trans S.gr
           have s1 : ax h 1 (encI .i64) (.slice (some ⟨bx, 0, none⟩) 1 1) [(0 : Int)] := .inr ⟨bx, 0, none, 1, rfl, xp _, S.lds (b := bx) (o := 0) (n := 1 * 1) m0 (lbt rfl)⟩
           have hl1 : ij δ.nodes [(0 : Int)] := (pB δ.nodes).push (by simp) (by omega) (by omega) (by simp)
           simp only [BS, LB, cls, Nat.reduceLT, Nat.reduceEqDiff, Nat.reduceAdd, Nat.reducePow, Nat.reduceDiv, Nat.reduceMod, Nat.reduceLeDiff]
           refine dl (tw S.ok hδ (hq'.gr g1) s1 (by simp)) ?_
           rintro pu h ⟨g, hU⟩
           replace hU := (hU.resolve_left (fun h => h.1 hl1)).2
           obtain ⟨bu, et⟩ : ∃ b, pu = ptrTo b := by obtain ⟨b, _, _, _, e, _⟩ := hU.ex; exact ⟨b, e⟩
           subst et
           have v5 := aF g (xc z5 g1.n)
           have v7 := aF g (xc z7 g1.n)
           have v15 := aF g (xc z15 g1.n)
           have g2 := g1.trans g
           have ok2 := g.ok
           clear S
           have S := Si ok2
           simp only [BS, LB, cls, Nat.reduceLT, Nat.reduceEqDiff, Nat.reduceAdd, Nat.reducePow, Nat.reduceDiv, Nat.reduceMod, Nat.reduceLeDiff, Tryz.FFb65, r5, r7, r15, g2.load l5, g2.load l70, g2.load l15]
           refine cI (mz S.ok fx fy fa aY (N := γ.nodes) (mk := 1) (nd := δ.nodes) (f := yf) (t := yt) (a := ya)) ?_
           intro h g
           have TT : kk h (ptrTo bu) δ.nodes [(0 : Int)] (toR δ [0]) (frR δ [0]) := (hU.gr g).q (fun i _ => lq _ _ _) (fun i _ => lq _ _ _)
           have x5 := aF g (xc z5 g2.n)
           have x7 := aF g (xc z7 g2.n)
           have x15 := aF g (xc z15 g2.n)
           replace S := (Si okK).call (g2.trans g); clear g
           simp only [BS, LB, cls, Nat.reduceLT, Nat.reduceEqDiff, Nat.reduceAdd, Nat.reducePow, Nat.reduceDiv, Nat.reduceMod, Nat.reduceLeDiff, Tryz.FFb65, r8, r15]
           refine ⟨by simp only [aW, bw, aR, bE, aT, ne_eq, not_false_eq_true, bH, bR, bG, aV, bW, cM, aO, Nat.reduceLT, Nat.reduceEqDiff, reduceIte, xd, r2, r5, r7, r8, r10, r12, r15, r16, r65, r66, ab, aU v5, bA v5, aU v7, bA v7, aU v15, bA v15, aU x5, bA x5, aU x7, bA x7, aU x15, bA x15], ?_⟩
           simp only [BS, LB, Nat.reduceLT, Nat.reduceEqDiff, S.gr.load l15]
           clear v5 v7 v15 x5 x7 x15 z5 z7 z15 gS g1 g2 s1 hl1 hU okS ok2
           obtain ⟨C, hC⟩ : ∃ C, dQ γ.nodes δ.nodes 1 yf yt = C := ⟨_, rfl⟩
           rw [hC]
           refine step_ret (mF S.ok hγ (hp'.gr S.gr) TT (by simp) aY hC (a := ya)) ?_
           rintro rv h ⟨g, cc, d, vA, vB', vE, rfl, y1, y2, y3, post⟩
           have eW : gH (.pointer (some ⟨bp, 0, none⟩)) γ.nodes δ.nodes 1 yf yt = C := hC
           have eW2 : gH (.pointer (some ⟨bp, 0, none⟩)) γ.nodes δ.nodes [(0 : Int)].length yf yt = C := hC
           replace TT := TT.gr g
           replace S := S.call g; clear g
           clear hC
           have nz20 : ¬ (20 : Int) = 0 := by decide
           simp only [BS, LB, Nat.reduceLT, Nat.reduceEqDiff, Tryz.FFb65, ansV]
           have gX := S.gr
           have okX := S.ok
           clear S
           have S := Si okX
           refine am ay S ?_; clear S; intro h b19 S n_b19
           simp only [BS, LB, Nat.reduceLT, Nat.reduceEqDiff]
           refine aB (S.store (i := 0) rfl xy (by intro x e; cases e) rfl (by simp only [ag, xo, xr, y1.2.1, y2.2.1, xd]; rfl) (lbt rfl) ono) ?_
           clear S; rintro h ⟨S, mo⟩; clear mo
           simp only [LC, ag, lay, xi, xj, Nat.reduceAdd] at S
           simp only [BS, LB, Nat.reduceLT, Nat.reduceEqDiff, Tryz.FFb65, r8, r15, (gX.trans S.gr).load l15]
           refine aq (iO S.ok aY (.inl ⟨bp, γ, _, rfl, hp'.gr (gX.trans S.gr), rfl⟩) ((TT.gr S.gr).tabO (by simp)) (f := yf) (t := yt) (a := ya)) ?_
           intro h g
           replace S := S.call g; clear g
           have gE := gX.trans S.gr
           rcases post with ⟨hz, rfl, rfl, rfl, rfl, rfl⟩ | ⟨hz, rfl | rfl⟩
           all_goals
            simp only [BS, LB, Nat.reduceLT, Nat.reduceEqDiff, Int.reduceLT, xg, Tryz.FFb65, r16, eW, hz, nz20, wk, S.ld (b := b19) (o := 0) m0 rfl, S.ld (b := b19) (o := 1) m0 rfl, S.ld (b := b19) (o := 2) m0 rfl, S.ld (b := b19) (o := 3) m0 rfl]
            exact ihk (k + 1) _ _ (by omega) ⟨by omega, (Si okK).call gE, by simp [aa, r2, ab], by simp [aa, r5, ab], by simp [aa, r7, ab], by simp [aa, r8, ab], by simp [aa, r10, ab], by simp [aa, r12, ab], by simp [aa, r15, ab], by simp [aa], by simp [aa, r65], by simp [aa, r66]⟩
         . have e1 : ¬ (k : Int) = 1 := by omega
           have e2 : ((k : Int) = 2) = True := eq_true (by omega)
           simp only [BS, LB, Nat.reduceLT, Nat.reduceEqDiff, Tryz.FFb65, r5, r15, r16, e1, e2, S.gr.load l5, S.gr.load l15]
           refine aq (mz S.ok fx fy fa aY (N := γ.nodes) (mk := 0) (nd := 0) (f := yf) (t := yt) (a := ya)) ?_
           intro h g
           replace S := S.call g; clear g
           clear TT hT
           have TT : kk h (.pointer none) 0 [] (toR γ []) (frR γ []) := .inr ⟨rfl, rfl, rfl⟩
           simp only [BS, LB, Nat.reduceLT, Nat.reduceEqDiff, Tryz.FFb65, r8, r15, S.gr.load l15]
           obtain ⟨C, hC⟩ : ∃ C, dQ γ.nodes 0 0 yf yt = C := ⟨_, rfl⟩
           rw [hC]
           refine step_ret (mF S.ok hγ (hp'.gr S.gr) TT (by simp) aY hC (a := ya)) ?_
           rintro rv h ⟨g, cc, d, vA, vB', vE, rfl, y1, y2, y3, post⟩
           have eW : gH (.pointer (some ⟨bp, 0, none⟩)) γ.nodes 0 0 yf yt = C := hC
           have eW2 : gH (.pointer (some ⟨bp, 0, none⟩)) γ.nodes 0 ([] : List Int).length yf yt = C := hC
           replace TT := TT.gr g
           replace S := S.call g; clear g
           clear hC
           have nz20 : ¬ (20 : Int) = 0 := by decide
           simp only [BS, LB, Nat.reduceLT, Nat.reduceEqDiff, Tryz.FFb65, ansV]
           have gX := S.gr
           have okX := S.ok
           clear S
           have S := Si okX
           refine am ay S ?_; clear S; intro h b19 S n_b19
           simp only [BS, LB, Nat.reduceLT, Nat.reduceEqDiff]
           refine aB (S.store (i := 0) rfl xy (by intro x e; cases e) rfl (by simp only [ag, xo, xr, y1.2.1, y2.2.1, xd]; rfl) (lbt rfl) ono) ?_
           clear S; rintro h ⟨S, mo⟩; clear mo
           simp only [LC, ag, lay, xi, xj, Nat.reduceAdd] at S
           simp only [BS, LB, Nat.reduceLT, Nat.reduceEqDiff, Tryz.FFb65, r8, r15, (gX.trans S.gr).load l15]
           refine aq (iO S.ok aY (.inl ⟨bp, γ, _, rfl, hp'.gr (gX.trans S.gr), rfl⟩) ((TT.gr S.gr).tabO (by simp)) (f := yf) (t := yt) (a := ya)) ?_
           intro h g
           replace S := S.call g; clear g
           have gE := gX.trans S.gr
           rcases post with ⟨hz, rfl, rfl, rfl, rfl, rfl⟩ | ⟨hz, rfl | rfl⟩
           all_goals
            simp only [BS, LB, Nat.reduceLT, Nat.reduceEqDiff, Int.reduceLT, xg, Tryz.FFb65, r16, eW, hz, nz20, wk, S.ld (b := b19) (o := 0) m0 rfl, S.ld (b := b19) (o := 1) m0 rfl, S.ld (b := b19) (o := 2) m0 rfl, S.ld (b := b19) (o := 3) m0 rfl]
            exact ihk (k + 1) _ _ (by omega) ⟨by omega, (Si okK).call gE, by simp [aa, r2, ab], by simp [aa, r5, ab], by simp [aa, r7, ab], by simp [aa, r8, ab], by simp [aa, r10, ab], by simp [aa, r12, ab], by simp [aa, r15, ab], by simp [aa], by simp [aa, r65], by simp [aa, r66]⟩
       . have c3 : ¬ (k : Int) < 3 := by omega
         simp only [BS, LB, Nat.reduceLT, Nat.reduceEqDiff, Tryz.FFb65, r12, r16, r66, c3, wj]
         exact ih (j + 1) _ _ (by omega) ⟨by omega, (Si okB).call (gK.trans S.gr), by simp [aa, r2, ab], by simp [aa, r5, ab], by simp [aa, r7, ab], by simp [aa, r8, ab], by simp [aa, r10, ab], by simp [aa, r12, ab], by simp [aa, r65], by simp [aa]⟩
     . exact ⟨xk _, S, by simp [aa, r2, ab], by simp [aa, r5, ab], by simp [aa, r7, ab], by simp [aa, r8, ab], by simp [aa, r10, ab], by simp [aa, r12, ab], by simp [aa, ab], by simp [aa], by simp [aa, r65], by simp [aa, r66]⟩
   . have c2 : ¬ (j : Int) < 2 := by omega
     have l12 : h.load b12 0 4 = some [.int .i64 w0, .int .i64 f, .int .i64 t, .int .i64 a] := (R12.gr S.gr).load (xp 4)
     simp only [BS, LB, Nat.reduceLT, Nat.reduceEqDiff, Tryz.FFb65, r12, r66, c2, l12]
     refine aq (iO S.ok aY (p := .pointer none) (N := 0) (f := f) (t := t) (a := a) (.inr rfl) (kk.tabO (R := toR γ []) (Q := frR γ []) (.inr ⟨rfl, rfl, rfl⟩) (by simp))) ?_
     intro h g
     replace S := S.call g
     have eN : gH (.pointer none) 0 0 ([] : List Int).length f t = 1 := rfl
     have eN2 : gH (.pointer none) 0 0 0 f t = 1 := rfl
     simp only [BS, LB, ac, Nat.reduceLT, Nat.reduceEqDiff, eN2]
     exact g0.trans S.gr
 . exact ⟨xk _, S, by simp [aa, ab], by simp [aa, ab], by simp [aa, ab], by simp [aa, ab], by simp [aa, ab], by simp [aa, ab], by simp [aa], by simp [aa]⟩
end Go.Ab
end
section
namespace Go.Ab
open Go.ChangeShapes Go.WideShapes Go.RowKit
theorem rowAt_le {P : Program} {fits : TypeId -> Bool} {d : Nat} {e : TypeId} {count off n : Nat} (h : rowAt P fits d e count off n = true) : off <= count * P.cellsOf e := by
 cases d with
 | zero => cases h
 | succ d =>
   unfold rowAt at h
   simp only [] at h
   split at h
   . cases h
   . rename_i hs
     have hpos : 0 < P.cellsOf e := by omega
     have hdm := Nat.div_add_mod off (P.cellsOf e)
     simp only [Bool.or_eq_true, Bool.and_eq_true, beq_iff_eq, decide_eq_true_eq] at h
     rcases h with ⟨⟨h1, h2⟩, _⟩ | ⟨h1, _⟩
     . have : P.cellsOf e * (off / P.cellsOf e) <= P.cellsOf e * count := Nat.mul_le_mul_left _ (by omega)
       rw [Nat.mul_comm count]; omega
     . have : P.cellsOf e * (off / P.cellsOf e + 1) <= P.cellsOf e * count := Nat.mul_le_mul_left _ (by omega)
       have hlt := Nat.mod_lt off hpos
       rw [Nat.mul_add, xl] at this
       rw [Nat.mul_comm count]; omega
theorem liesAt_le {P : Program} {d : Nat} : ∀ {e : TypeId} {count off : Nat} {u : TypeId} {n : Nat}, liesAt P d e count off u n = true -> off <= count * P.cellsOf e := by
 induction d with
 | zero => intro e count off u n h; cases h
 | succ d ih =>
   intro e count off u n h
   unfold liesAt at h
   rw [Bool.or_eq_true] at h
   rcases h with h | h
   . exact rowAt_le h
   . split at h
     . exact ih h
     . cases h
theorem has_W {P : Program} {W : World} {r : _root_.Go.Reach} {base : Nat} {a : Addr} {e : TypeId} {n : Nat} (h : W.has P r base a e n) : a.spot = none /\ a.block < W.heap.size /\ ∃ l, (hpW W).load (a.block + 16) a.off 0 = some l := by
 obtain ⟨_, hsp, row, cells, hsh, hl⟩ := h
 have hle := liesAt_le hl
 have hle2 : a.off <= cells := xh hle (Nat.div_mul_le_self _ _)
 unfold World.shape? at hsh
 split at hsh
 next cs el fz ho =>
  cases hsh
  have hlt := (Array.getElem?_eq_some_iff.1 ho).1
  have hr : Row (hpW W) (a.block + 16) (cs.toList.map (fT W.heap.size)) 0 := ⟨_, _, by rw [ny, ho]; rfl, Tr.sized_ofList _, fun j => Tr.get_ofList _ j⟩
  exact ⟨hsp, hlt, _, hr.load (o := a.off) (n := 0) (by simpa using hle2)⟩
 . cases hsh
section
variable {H : Type} {enc : TypeId × Value -> H} {P : Program}
theorem jg {W : World} {base fuel : Nat} {s e : TypeId} {k : IntKind} {c : Value} {sp : Nat -> Bool} {hd : Bool} {x : DataW H × List MemPlace} (hs : P.underlying s = some (.slice e)) (he : P.underlying e = some (.int k)) (hc : P.cellsOf e = 1)
 (hok : Cell.okWide P W .any base s c) (h : DataW.trod enc P W 0 sp hd fuel s [c] = some x) : ∃ zs : List Int, SlW (hpW W) k (fT W.heap.size c) zs /\ (∀ z ∈ zs, (Lit.int k z).wf = true) /\ zs.length <= 9223372036854775807 := by
 rcases Go.ChangeShapes.open_ints hs he hc h with ⟨e1, _⟩ | ⟨a, len, cap, zs, e1, hb, hl, hm, hz, _, hcell, hwf⟩
 . cases e1
   exact ⟨[], .inl ⟨rfl, rfl⟩, fun z hz => (by cases hz), by simp⟩
 . cases e1
   unfold Cell.okWide at hok
   rw [hs] at hok
   simp only [Cell.ok, hs] at hok
   obtain ⟨hle1, hmax, hhas⟩ := hok
   obtain ⟨hsp, hlt, h0⟩ := has_W hhas
   have hlz : len <= zs.length := by rw [hz]; split <;> omega
   refine ⟨zs.take len, .inr ⟨a.block + 16, a.off, cap, ?_, ?_, ?_⟩, fun z hz => hwf z (List.mem_of_mem_take hz), by
    have : (cap : Int) <= 9223372036854775807 := hmax
    rw [xe]; omega⟩
   . rw [xe, xw hlz]
     simp only [fT, if_pos hl, if_pos (And.intro hsp hlt)]
   . rw [xe, xw hlz]; exact hl
   . rw [xe, xw hlz, xl]
     rw [load_join (f := fun i => .int k (zs.getD i 0)) h0 (fun i hi => load_W hsp (hcell i (by omega)))]
     congr 1
     have e4 : ∀ l : List Int, l.flatMap (encI k) = l.map fun x => .int k x := fun l => by
      rw [xn, xI, xn]; rfl
     rw [e4]
     refine List.ext_getElem? fun i => ?_
     rw [xz, xz, List.getElem?_take]
     by_cases hi : i < len
     . rw [if_pos hi, xQ hi, xf (show i < zs.length by omega)]
       simp [xb, show i < zs.length by omega]
     . rw [if_neg hi, List.getElem?_eq_none (by simpa using hi)]; rfl
theorem open_slV {W : World} {base : Nat} {s e : TypeId} {k : IntKind} {v : Value} {sp : Nat -> Bool} {hd : Bool} {d : DataW H} {p : List MemPlace} (hs : P.underlying s = some (.slice e)) (he : P.underlying e = some (.int k)) (hc : P.cellsOf e = 1)
 (hval : Value.okWide P W .any base s v) (h : DataW.Trod enc P W 0 sp hd s v d p) : ∃ zs : List Int, SlW (hpW W) k (absA W.heap.size v) zs /\ (∀ z ∈ zs, (Lit.int k z).wf = true) /\ zs.length <= 9223372036854775807 := by
 unfold Value.okWide at hval
 rw [hs] at hval
 obtain ⟨fuel, h⟩ := h
 have hc0 : ∀ l : Array Value, v ≠ .agg l := by
  rintro l rfl
  simp only [Cell.okWide, hs, Cell.ok] at hval
 have hcs : v.cells.toList = [v] := by cases v <;> first | rfl | exact absurd rfl (hc0 _)
 rw [hcs] at h
 have ha : absA W.heap.size v = fT W.heap.size v := by cases v <;> first | rfl | exact absurd rfl (hc0 _)
 rw [ha]
 exact jg hs he hc hval h
theorem open_sl2 {W : World} {base : Nat} {t s e : TypeId} {k : IntKind} {f0 f1 : Field} {v : Value} {sp : Nat -> Bool} {hd : Bool} {d : DataW H} {p : List MemPlace} (ht : P.underlying t = some (.struct #[f0, f1])) (o0 : f0.offset = 0) (o1 : f1.offset = 1) (t0 : f0.type = s) (t1 : f1.type = s)
 (hs : P.underlying s = some (.slice e)) (he : P.underlying e = some (.int k)) (hc : P.cellsOf e = 1) (hcs : P.cellsOf s = 1) (hct : P.cellsOf t = 2) (hts : P.cellTypes P.depth t = some [s, s])
 (hval : Value.okWide P W .any base t v) (h : DataW.Trod enc P W 0 sp hd t v d p) :
 ∃ (c0 c1 : Value) (xs ys : List Int), v = .agg #[c0, c1] /\ SlW (hpW W) k (fT W.heap.size c0) xs /\ SlW (hpW W) k (fT W.heap.size c1) ys /\ (∀ z ∈ xs, (Lit.int k z).wf = true) /\ ∀ z ∈ ys, (Lit.int k z).wf = true := by
 unfold Value.okWide at hval
 rw [ht] at hval
 obtain ⟨cs, rfl, hsz, ts, e1, _, hrow⟩ := hval
 rw [hts] at e1
 cases e1
 rw [hct] at hsz
 obtain ⟨l⟩ := cs
 simp only [xK] at hsz
 obtain ⟨c0, c1, rfl⟩ := len2 hsz
 obtain ⟨fuel, h⟩ := h
 obtain ⟨y0, y1, n, _, _, h1, h2⟩ := Go.ChangeShapes.trod_struct2 ht h
 rw [o0, t0, hcs] at h1
 rw [o1, t1, hcs] at h2
 obtain ⟨u0, e0, k0⟩ := hrow 0 c0 rfl
 obtain ⟨u1, e1, k1⟩ := hrow 1 c1 rfl
 cases e0
 cases e1
 obtain ⟨xs, hx, wx, _⟩ := jg hs he hc k0 h1
 obtain ⟨ys, hy, wy, _⟩ := jg hs he hc k1 h2
 exact ⟨c0, c1, xs, ys, rfl, hx, hy, wx, wy⟩
end
end Go.Ab

end
section
namespace Go.Ab
open Go.ChangeShapes Go.WideShapes Go.RowKit
section
variable {H : Type} {enc : TypeId × Value -> H} {P : Program}
theorem open_arr2 {W : World} {base : Nat} {t e : TypeId} {k : IntKind} {v : Value} {sp : Nat -> Bool} {hd : Bool} {d : DataW H} {p : List MemPlace} (ht : P.underlying t = some (.array 2 e)) (he : P.underlying e = some (.int k)) (hce : P.cellsOf e = 1) (hct : P.cellsOf t = 2)
 (hval : Value.okWide P W .any base t v) (h : DataW.Trod enc P W 0 sp hd t v d p) : ∃ x y : Int, v = .agg #[.int k x, .int k y] /\ (Lit.int k x).wf = true /\ (Lit.int k y).wf = true := by
 unfold Value.okWide at hval
 rw [ht] at hval
 obtain ⟨cs, rfl, hsz, _⟩ := hval
 rw [hct] at hsz
 obtain ⟨l⟩ := cs
 simp only [xK] at hsz
 obtain ⟨a, b, rfl⟩ : ∃ a b, l = [a, b] := by
  match l, hsz with
  | [a, b], _ => exact ⟨a, b, rfl⟩
 obtain ⟨fuel, h⟩ := h
 obtain ⟨xs, m, _, _, _, hlen, hf⟩ := DataW.trod_array ht h
 obtain ⟨y0, y1, rfl⟩ : ∃ a b, xs = [a, b] := by
  match xs, hlen with
  | [a, b], _ => exact ⟨a, b, rfl⟩
 have q0 := hf 0 (by decide)
 have q1 := hf 1 (by decide)
 rw [hce] at q0 q1
 obtain ⟨x, e0, _, w0⟩ := DataW.trod_int he q0
 obtain ⟨y, e1, _, w1⟩ := DataW.trod_int he q1
 cases e0
 cases e1
 exact ⟨x, y, rfl, w0, w1⟩
end
end Go.Ab

end
section
namespace Go.Ab
open Go.ChangeShapes Go.WideShapes Go.RowKit
section
variable {H : Type} {enc : TypeId × Value -> H} {P : Program}
theorem jX {t e : TypeId} {k : IntKind} {n : Nat} {cs : List Value} {W : World} {sp : Nat -> Bool} {hd : Bool} {fuel : Nat} {x : DataW H × List MemPlace} (ht : P.underlying t = some (.array n e)) (he : P.underlying e = some (.int k)) (hce : P.cellsOf e = 1) (h : DataW.trod enc P W 0 sp hd fuel t cs = some x) :
 ∀ i, i < n -> ∃ z : Int, cs[i]? = some (.int k z) /\ (Lit.int k z).wf = true := by
 obtain ⟨xs, m, _, _, _, hlen, hf⟩ := DataW.trod_array ht h
 intro i hi
 have q := hf i (by omega)
 rw [hce, xl] at q
 obtain ⟨y, hy⟩ : ∃ y, xs[i]? = some y := ⟨_, xf (by omega)⟩
 rw [hy] at q
 obtain ⟨z, e0, _, w0⟩ := DataW.trod_int he q
 refine ⟨z, ?_, w0⟩
 have := congrArg (·[0]?) e0
 simpa using this
theorem len7 {α : Type} {l : List α} (h : l.length = 7) : ∃ a b c d e f g, l = [a, b, c, d, e, f, g] := by
 match l, h with
 | [a, b, c, d, e, f, g], _ => exact ⟨a, b, c, d, e, f, g, rfl⟩
theorem open_d13 {W : World} {base : Nat} {t s0 a2 a3 s3 e e3 : TypeId} {f0 f1 f2 f3 : Field} {v : Value} {sp : Nat -> Bool} {hd : Bool} {d : DataW H} {p : List MemPlace} (ht : P.underlying t = some (.struct #[f0, f1, f2, f3])) (o0 : f0.offset = 0) (o1 : f1.offset = 1) (o2 : f2.offset = 3) (o3 : f3.offset = 6)
 (t0 : f0.type = s0) (t1 : f1.type = a2) (t2 : f2.type = a3) (t3 : f3.type = s3) (h0 : P.underlying s0 = some (.slice e)) (h1 : P.underlying a2 = some (.array 2 e)) (h2 : P.underlying a3 = some (.array 3 e)) (h3 : P.underlying s3 = some (.slice e3))
 (g0 : P.underlying e = some (.int .u8)) (g3 : P.underlying e3 = some (.int .i64)) (c0 : P.cellsOf e = 1) (c3 : P.cellsOf e3 = 1) (d0 : P.cellsOf s0 = 1) (d1 : P.cellsOf a2 = 2) (d2 : P.cellsOf a3 = 3) (d3 : P.cellsOf s3 = 1) (hct : P.cellsOf t = 7) (hts : P.cellTypes P.depth t = some [s0, e, e, e, e, e, s3])
 (hval : Value.okWide P W .any base t v) (h : DataW.Trod enc P W 0 sp hd t v d p) :
 ∃ (a b : Value) (x y z1 z2 z3 : Int) (B N : List Int), v = .agg #[a, .int .u8 x, .int .u8 y, .int .u8 z1, .int .u8 z2, .int .u8 z3, b] /\ SlW (hpW W) .u8 (fT W.heap.size a) B /\ SlW (hpW W) .i64 (fT W.heap.size b) N /\
   (∀ z ∈ B, (Lit.int .u8 z).wf = true) /\ (∀ z ∈ N, (Lit.int .i64 z).wf = true) /\ (Lit.int .u8 x).wf = true /\ (Lit.int .u8 y).wf = true /\ (Lit.int .u8 z1).wf = true /\ (Lit.int .u8 z2).wf = true /\ (Lit.int .u8 z3).wf = true /\ N.length <= 9223372036854775807 := by
 unfold Value.okWide at hval
 rw [ht] at hval
 obtain ⟨cs, rfl, hsz, ts, e1, _, hrow⟩ := hval
 rw [hts] at e1
 cases e1
 rw [hct] at hsz
 obtain ⟨l⟩ := cs
 simp only [xK] at hsz
 obtain ⟨a, x1, x2, y1, y2, y3, b, rfl⟩ := len7 hsz
 obtain ⟨fuel, h⟩ := h
 obtain ⟨xs, n, _, _, hl, hlen, hf⟩ := DataW.trod_struct ht h
 obtain ⟨z0, z1, z2, z3, rfl⟩ := len4 (by rw [hlen]; rfl : xs.length = 4)
 have q0 := hf 0 f0 rfl
 have q1 := hf 1 f1 rfl
 have q2 := hf 2 f2 rfl
 have q3 := hf 3 f3 rfl
 rw [o0, t0, d0] at q0
 rw [o1, t1, d1] at q1
 rw [o2, t2, d2] at q2
 rw [o3, t3, d3] at q3
 have r : ∀ (j : Nat) t v, [s0, e, e, e, e, e, s3][j % 7]? = some t -> [a, x1, x2, y1, y2, y3, b][j]? = some v -> Cell.okWide P W .any base t v := fun j t v h1 h2 => by
  obtain ⟨u, h3, h4⟩ := hrow j v (by simpa using h2)
  obtain rfl : t = u := Option.some.inj (h1.symm.trans h3)
  exact h4
 obtain ⟨B, hB, wB, _⟩ := jg h0 g0 c0 (r 0 s0 a rfl rfl) q0
 obtain ⟨N, hN, wN, lN⟩ := jg h3 g3 c3 (r 6 s3 b rfl rfl) q3
 obtain ⟨k1, i1, j1⟩ := jX h1 g0 c0 q1 0 (by decide)
 obtain ⟨k2, i2, j2⟩ := jX h1 g0 c0 q1 1 (by decide)
 obtain ⟨k3, i3, j3⟩ := jX h2 g0 c0 q2 0 (by decide)
 obtain ⟨k4, i4, j4⟩ := jX h2 g0 c0 q2 1 (by decide)
 obtain ⟨k5, i5, j5⟩ := jX h2 g0 c0 q2 2 (by decide)
 cases i1
 cases i2
 cases i3
 cases i4
 cases i5
 exact ⟨a, b, k1, k2, k3, k4, k5, B, N, rfl, hB, hN, wB, wN, j1, j2, j3, j4, j5, lN⟩
end
end Go.Ab

end
