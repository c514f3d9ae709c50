/- Nets, cells, flags: what the functions do (part 4). -/
import Derived.Test.YtnnimodkmjedaaaGreatDoorNetC
import Derived.ChangeSlices
import Derived.ChangeArms
import Derived.ChangeSame
import Derived.OpenShut
set_option maxHeartbeats 4000000
set_option linter.defProp false
set_option linter.unusedVariables false
set_option linter.unusedSimpArgs false
section
namespace Go.Ab
open Go.Proofs
set_option maxRecDepth 10000
open Tryz in
def Tryz.FFsh312 := aj a1 <| aj s1 <| aj z1 <| aj n1 <| aj u2 <| aj a2 <| aj s2 <| aj z2 <| aj i2 <| aj u3 <| aj a3 <| aj s3 <| aj z3 <| aj i3 <| aj u4 <| aj a4 <| aj s4 <| aj z4 <| aj n4 <| aj u5 <| aj a5 <| aj s5 <| aj z5 <| aj i5 <| aj u22 <| aj a22 <| aj s22 <| aj z22 <| aj q22 <| aj n22 <| aj u23 <| aj a23 <| aj s23 <| aj z23 <| aj n23 <| aj u24 <| aj a24 <| aj s24 <| aj z24 <| aj n24 <| aj u25 <| aj a25 <| aj s25 <| aj z25 <| aj q25 <| aj n25 <| aj a27 <| aj s27 <| aj z27 <| aj i27 <| aj n27 <| aj p27 <| aj ff27 <| aj d27 <| aj u29 <| aj a29 <| aj s29 <| aj z29 <| aj q29 <| aj n29 <| aj a31 <| aj s31 <| aj z31 <| aj i31 <| aj n31 <| aj p31 <| aj ff31 <| aj d31 <| aj u38 <| aj a38 <| aj s38 <| aj z38 <| aj q38 <| aj n38 <| aj a40 <| aj s40 <| aj z40 <| aj i40 <| aj n40 <| aj p40 <| aj ff40 <| aj d40 <| aj a56 <| aj s56 <| aj z56 <| aj i56 <| aj n56 <| aj p56 <| aj ff56 <| d56
open Tryz in
def Tryz.FFsh313 := aj a1 <| aj s1 <| aj z1 <| aj n1 <| aj u2 <| aj a2 <| aj s2 <| aj z2 <| aj i2 <| aj u3 <| aj a3 <| aj s3 <| aj z3 <| aj i3 <| aj u4 <| aj a4 <| aj s4 <| aj z4 <| aj n4 <| aj u25 <| aj a25 <| aj s25 <| aj z25 <| aj q25 <| aj n25 <| aj u38 <| aj a38 <| aj s38 <| aj z38 <| aj q38 <| aj n38 <| aj a40 <| aj s40 <| aj z40 <| aj i40 <| aj n40 <| aj p40 <| aj ff40 <| d40
def askV (s t : Nat) (vA vP : Value) : Value := .agg ⟨[.int .i64 (s : Nat), .int .i64 (t : Nat), vA, vP]⟩
theorem ask13_ok {h0 : Hp} (ok : h0.t.Sized h0.n) {vB vY : Value} {e0 e1 w0 w1 w2 : Nat} {B : List Int} (hB : SlW h0 .u8 vB B) (fY : Fl vY) (i0 : e0 ≤ 255) (i1 : e1 ≤ 255) (l1 : w1 ≤ 255) (l2 : w2 ≤ 255) {γ : Gra} (hγ : Good γ) {vx vy va : Value} (ga : bw h0 vx vy va γ) :
 Ret Tryz.abEnv 12 [.agg ⟨[vB, .int .u8 (e0 : Nat), .int .u8 (e1 : Nat), .int .u8 (w0 : Nat), .int .u8 (w1 : Nat), .int .u8 (w2 : Nat), vY]⟩, bS γ vx vy va] h0 fun r h' => Gr h0 h' ∧ ∃ s t vA vP als pis, r = askV s t vA vP ∧ s < γ.nodes ∧ t < γ.nodes ∧ aG h' 1 jz vA als ∧ (als = [] ∨ als.length = γ.arcs.length) ∧ aG h' 1 (encI .i64) vP pis ∧ (pis = [] ∨ pis.length = γ.nodes) ∧ ∀ c, av vA c ∨ av vP c → h0.n ≤ c := by
 have S := St.init (M := NoM) ok
 have fB := hB.sl.fl
 have fx := ga.X.fl
 have fy := ga.Y.fl
 have fa := ga.A.fl
 have n1 := hγ.n1
 have n2 := hγ.n2
 have nz : (γ.nodes : Int) ≠ 0 := by omega
 have tm : ∀ x : Nat, (x : Int).tmod (γ.nodes : Int) = ((x % γ.nodes : Nat) : Int) := fun x => by rw [Int.tmod_eq_emod_of_nonneg (by omega)]; exact (Int.natCast_emod _ _).symm
 have wc : ∀ x : Nat, x ≤ 255 → aw .i64 (x : Int) = (x : Int) := fun x hx => by rw [wrap64] <;> omega
 have md : ∀ x : Nat, x % γ.nodes < γ.nodes := fun x => Nat.mod_lt _ (by omega)
 refine aq (n := 26) (rs := [.cell 4 40]) rfl Tryz.e12 rfl rfl rfl (lbt rfl) ?_
 simp only [BS, Nat.reduceLT]
 refine ao (bn (by intro x e; cases e)) S ?_; clear S; intro h b2 S n_b2; simp only [ae] at S
 simp only [BS, Nat.reduceLT, Nat.reduceEqDiff, if_false, bS]
 refine ao (bn (by intro x e; cases e)) S ?_; clear S; intro h b3 S n_b3; simp only [ae] at S
 simp only [BS, Tryz.FFsh312]
 refine ao aH S ?_; clear S; intro h b4 S n_b4
 simp only [BS]
 refine az (aD rfl) (q := 0) (ps := [(12, 19), (9, 19), (5, 19), (2, 19), (16, 18), (16, 17), (12, 16), (9, 16), (5, 16), (2, 16)]) (by kernel_rfl) ?_
 simp only [BS, LB, gH, bG, gM, cls, Nat.reduceLT, Nat.reduceEqDiff, Nat.reduceAdd, Nat.reducePow, Nat.reduceDiv, Nat.reduceMod, Nat.reduceLeDiff, Int.reduceToNat, Int.reduceLE, Int.reduceLT, Int.cast_ofNat_Int, Tryz.FFsh312, wc e0 i0, wc e1 i1, fV nz, tm e0, tm e1, List.drop_zero, List.take_succ_cons, List.take_zero, S.ld (b := b2) (o := 1) (by repeat constructor) rfl, S.ld (b := b2) (o := 2) (by repeat constructor) rfl, S.ld (b := b3) (o := 0) (by repeat constructor) rfl, S.lds (b := b2) (o := 0) (n := 7) (by repeat constructor) (lbt rfl), S.lds (b := b3) (o := 0) (n := 4) (by repeat constructor) (lbt rfl)]
 have hs := md e0
 have ht := md e1
 generalize e0 % γ.nodes = s at hs
 generalize e1 % γ.nodes = t at ht
 have old : ∀ {h : Hp}, Gr h0 h → ∀ {kd v xs}, SlW h0 kd v xs → SlW h kd v xs := fun g => fun s => s.imp (fun h => h) (fun ⟨b, o, c, h1, h2, h3⟩ => ⟨b, o, c, h1, h2, g.load h3⟩)
 have k0 := S.fr.n
 have p2 := (S.row (b := b2) m2).lt S.ok
 have p3 := (S.row (b := b3) m1).lt S.ok
 have p4 := (S.row (b := b4) m0).lt S.ok
 have ak : Ret Tryz.abEnv 50 [.agg ⟨[vB, .int .u8 (e0 : Nat), .int .u8 (e1 : Nat), .int .u8 (w0 : Nat), .int .u8 (w1 : Nat), .int .u8 (w2 : Nat), vY]⟩, bS γ vx vy va] h _ := te S.ok (old S.gr hB) fY aF aF aF aF hγ (ga.gr S.gr)
 unfold bS at ak
 refine di ak ?_
 clear ak
 rintro vA h ⟨g, als, sA, hA, cA⟩
 have v1 := aY g p2
 have v2 := aY g p3
 replace S := S.call g; clear g
 obtain ⟨a1, a2, a3, rfl⟩ := sA.form
 have k1 := S.fr.n
 have p2' := (S.row (b := b2) m2).lt S.ok
 have p3' := (S.row (b := b3) m1).lt S.ok
 have p4' := (S.row (b := b4) m0).lt S.ok
 simp only [BS, LB, cls, Nat.reduceLT, Nat.reduceEqDiff, Nat.reduceAdd, Nat.reducePow, Nat.reduceDiv, Nat.reduceMod, Nat.reduceLeDiff, Tryz.FFsh312, List.drop_zero, List.take_succ_cons, List.take_zero, S.lds (b := b2) (o := 0) (n := 7) (by repeat constructor) (lbt rfl), S.lds (b := b3) (o := 0) (n := 4) (by repeat constructor) (lbt rfl)]
 have pk : Ret Tryz.abEnv 51 [.agg ⟨[vB, .int .u8 (e0 : Nat), .int .u8 (e1 : Nat), .int .u8 (w0 : Nat), .int .u8 (w1 : Nat), .int .u8 (w2 : Nat), vY]⟩, bS γ vx vy va] h _ := pi13_ok S.ok fB fY aF aF aF l1 l2 hγ (ga.gr S.gr)
 unfold bS at pk
 refine di pk ?_
 clear pk
 rintro vP h ⟨g, pis, sP, hP, cP⟩
 have v3 := aY g p2'
 have v4 := aY g p3'
 replace S := S.call g
 replace sA := sA.gr g; clear g
 obtain ⟨q1, q2, q3, rfl⟩ := sP.form
 generalize hVA : Value.slice a1 a2 a3 = vA at sA cA
 generalize hVP : Value.slice q1 q2 q3 = vP at sP cP
 have fA : Fl vA := sA.fl
 have fP : Fl vP := sP.fl
 simp only [BS, LB, cls, Nat.reduceLT, Nat.reduceEqDiff, Nat.reduceAdd, Nat.reducePow, Nat.reduceDiv, Nat.reduceMod, Nat.reduceLeDiff, Tryz.FFsh312, fA, fP]
 refine aJ (S.store (i := 0) rfl Tryz.s40 (by intro x e; cases e) rfl (by simp only [ae, List.all_cons, List.all_nil, fA.2.1, fP.2.1, Bool.and_true]; rfl) (lbt rfl) ono) ?_
 clear S; rintro h7 ⟨S, mo⟩
 simp only [List.set_cons_zero, List.set_cons_succ, ae, lay, List.take, List.drop, List.nil_append, List.cons_append, List.append_nil, List.length_cons, List.length_nil, Nat.reduceAdd, Nat.add_zero] at S
 simp only [BS, an, Nat.reduceAdd]
 refine ⟨by simp only [cq, cC, bV, cK, cg, ne_eq, not_false_eq_true, cJ, da, cu, cj, dr, dW, bc, Nat.reduceLT, Nat.reduceEqDiff, reduceIte, Bool.and_true, ah, fb v1, fb v2, cV v1, cV v2, cV v3, cV v4], ?_⟩
 refine ⟨_, ig (by decide) (by simp only [bc, ah, Nat.reduceEqDiff, reduceIte]; exact cG Tryz.a40 Tryz.s40 (S.lds (b := b4) (o := 0) (n := 4) m0 (lbt rfl))), ?_⟩
 exact ⟨S.gr, s, t, vA, vP, als, pis, rfl, hs, ht, sA.mo mo (fun c hc e => by have := cA c hc; omega), hA, sP.mo mo (fun c hc e => by have := cP c hc; omega), hP, fun c hc => hc.elim (fun h => by have := cA c h; omega) (fun h => by have := cP c h; omega)⟩
theorem so {h0 : Hp} (ok : h0.t.Sized h0.n) {s t : Nat} {vA vP : Value} {als : List Bool} {pis : List Int} (sA : aG h0 1 jz vA als) (hA : als.length ≤ 1000) (sP : aG h0 1 (encI .i64) vP pis) (hP : pis.length ≤ 1000) :
 Ret Tryz.abEnv 13 [askV s t vA vP] h0 fun r h' => Gr h0 h' ∧ ∃ uA uP, r = askV s t uA uP ∧ aG h' 1 jz uA als ∧ aG h' 1 (encI .i64) uP pis := by
 have S := St.init (M := NoM) ok
 have fA := sA.fl
 have fP := sP.fl
 refine aq (n := 16) (rs := [.cell 2 40]) rfl Tryz.e13 rfl rfl rfl (lbt rfl) ?_
 simp only [BS, Nat.reduceLT, askV]
 refine ao (bn (by intro x e; cases e)) S ?_; clear S; intro h b1 S n_b1; simp only [ae] at S
 simp only [BS, Tryz.FFsh313]
 refine ao aH S ?_; clear S; intro h b2 S n_b2
 simp only [BS]
 refine az (aD rfl) (q := 400) (ps := [(3, 11), (1, 11), (7, 10), (3, 7), (1, 7)]) (by kernel_rfl) ?_
 simp only [BS, LB, cls, Nat.reduceLT, Nat.reduceEqDiff, Nat.reduceAdd, Nat.reducePow, Nat.reduceDiv, Nat.reduceMod, Nat.reduceLeDiff, Tryz.FFsh313, S.ld (b := b1) (o := 0) (by repeat constructor) rfl, S.ld (b := b1) (o := 1) (by repeat constructor) rfl]
 have z0 := fun c (hc : c ∈ keys _ _) => S.key_lt hc
 refine bM (bu (by first | exact Tryz.u25 | exact Tryz.u38) (by first | exact Tryz.e2E | exact Tryz.e4E) (by decide) (by first | rfl | exact fillE )) S ?_; clear S; intro h b5 S n_b5 e_b5; simp only [aO, aT, ae, List.cons_append, List.nil_append, List.append_nil, List.set_cons_zero, List.set_cons_succ, Nat.reduceMul, Nat.reduceAdd, Nat.zero_mul, Nat.zero_add, Nat.mul_one, Nat.one_mul] at S
 rw [← e_b5] at z0
 simp only [BS, LB, cls, Nat.reduceLT, Nat.reduceEqDiff, Nat.reduceAdd, Nat.reducePow, Nat.reduceDiv, Nat.reduceMod, Nat.reduceLeDiff, Tryz.FFsh313, S.ld (b := b1) (o := 2) (by repeat constructor) rfl]
 have l5 := (S.row (b := b5) m0).lt S.ok
 refine ly S (enc := jz) Tryz.u38 Tryz.e4E (by decide) Tryz.n38 (sA.gr S.gr) ja (by decide) (by omega) (S.row (b := b5) m0) ?_
 intro h v1 g s1 q1 _
 have p1 : ∀ c, av v1 c → b5 ≤ c := fun c hc => by have := q1 c hc; omega
 have gn5 := g.n
 replace S := (S.call g).drop1; clear g
 have u1 : ∀ c, av v1 c → c < h.n := fun c hc => s1.lt S.ok hc
 have Sb := S
 have i1 := S.fr.n
 replace S := S.base
 simp only [BS, LB, cls, Nat.reduceAdd, Nat.reducePow, Nat.reduceDiv, Nat.reduceMod, Nat.reduceLeDiff]
 refine bM (bu (by first | exact Tryz.u25 | exact Tryz.u38) (by first | exact Tryz.e2E | exact Tryz.e4E) (by decide) (by first | rfl | exact fillE )) S ?_; clear S; intro h b9 S n_b9 e_b9; simp only [aO, aT, ae, List.cons_append, List.nil_append, List.append_nil, List.set_cons_zero, List.set_cons_succ, Nat.reduceMul, Nat.reduceAdd, Nat.zero_mul, Nat.zero_add, Nat.mul_one, Nat.one_mul] at S
 rw [← e_b9] at u1
 replace s1 := s1.mo S.fr (fun c hc hk => by have := p1 c hc; have := z0 c hk; omega)
 replace S := Sb.rebase S
 clear Sb
 simp only [BS, LB, cls, Nat.reduceLT, Nat.reduceEqDiff, Nat.reduceAdd, Nat.reducePow, Nat.reduceDiv, Nat.reduceMod, Nat.reduceLeDiff, Tryz.FFsh313, S.ld (b := b1) (o := 3) (by repeat constructor) rfl]
 have l9 := (S.row (b := b9) m0).lt S.ok
 refine hQ (S.cloneW (enc := encI .i64) Tryz.u25 Tryz.e2E (by decide) Tryz.n25 (sP.gr S.gr) (dH .i64) (by decide) (by omega) (S.row (b := b9) m0)) ?_
 clear S; rintro h v2 ⟨S, g, s2, q2, _⟩
 have p2 : ∀ c, av v2 c → b9 ≤ c := fun c hc => by have := q2 c hc; omega
 have gn9 := g.n
 replace S := S.drop1
 replace s1 := s1.gr g; clear g
 obtain ⟨va1, vn1, vc1, rfl⟩ := s1.form
 obtain ⟨va2, vn2, vc2, rfl⟩ := s2.form
 have f1 := s1.fl
 have f2 := s2.fl
 have kb := z0 b1 (by simp [keys])
 have kb2 := z0 b2 (by simp [keys])
 simp only [BS, LB, cls, Nat.reduceLT, Nat.reduceEqDiff, Nat.reduceAdd, Nat.reducePow, Nat.reduceDiv, Nat.reduceMod, Nat.reduceLeDiff, Tryz.FFsh313]
 refine aJ (S.store (i := 0) rfl Tryz.s40 (by intro x e; cases e) rfl (by simp only [ae, List.all_cons, List.all_nil, f1.2.1, f2.2.1, Bool.and_true]; rfl) (lbt rfl) ono) ?_
 clear S; rintro h ⟨S, mo⟩
 simp only [List.set_cons_zero, List.set_cons_succ, ae, lay, List.take, List.drop, List.nil_append, List.cons_append, List.append_nil, List.length_cons, List.length_nil, Nat.reduceAdd, Nat.add_zero] at S
 simp only [BS, an, Nat.reduceAdd]
 have d5 : b1 ≠ b5 := by omega
 have d9 : b1 ≠ b9 := by omega
 refine ⟨by simp only [cq, cC, bV, cK, cg, ne_eq, not_false_eq_true, cJ, da, cu, cj, dr, dW, bc, Nat.reduceLT, Nat.reduceEqDiff, reduceIte, Bool.and_true, ah, bN, nw, oP, bP d5, bP d9, bP d5.symm, bP d9.symm, bP (show b5 ≠ b9 by omega), bP (show b9 ≠ b5 by omega)], ?_⟩
 refine ⟨_, ig (by decide) (by simp only [bc, ah, Nat.reduceEqDiff, reduceIte]; exact cG Tryz.a40 Tryz.s40 (S.lds (b := b2) (o := 0) (n := 4) m0 (lbt rfl))), ?_⟩
 exact ⟨S.gr, _, _, rfl, s1.mo mo (fun c hc e => by have := p1 c hc; omega), s2.mo mo (fun c hc e => by have := p2 c hc; omega)⟩
end Go.Ab

end
section
namespace Go.Ab
open Go.Proofs
set_option maxRecDepth 10000
open Tryz in
def Tryz.FFsh43 := aj a1 <| aj s1 <| aj z1 <| aj n1 <| aj u2 <| aj a2 <| aj s2 <| aj z2 <| aj i2 <| aj u3 <| aj a3 <| aj s3 <| aj z3 <| aj i3 <| aj u4 <| aj a4 <| aj s4 <| aj z4 <| aj n4 <| aj u5 <| aj a5 <| aj s5 <| aj z5 <| aj i5 <| aj u6 <| aj a6 <| aj s6 <| aj z6 <| aj i6 <| aj a7 <| aj s7 <| aj z7 <| aj i7 <| aj n7 <| aj p7 <| aj ff7 <| aj d7 <| aj a8 <| aj s8 <| aj z8 <| aj i8 <| aj n8 <| aj p8 <| aj ff8 <| aj d8 <| aj u9 <| aj a9 <| aj s9 <| aj z9 <| aj n9 <| aj u10 <| aj a10 <| aj s10 <| aj z10 <| aj n10 <| aj u11 <| aj a11 <| aj s11 <| aj z11 <| aj n11 <| aj u12 <| aj a12 <| aj s12 <| aj z12 <| aj i12 <| aj a13 <| aj s13 <| aj z13 <| aj i13 <| aj n13 <| aj p13 <| aj ff13 <| aj d13 <| aj a14 <| aj s14 <| aj z14 <| aj i14 <| aj n14 <| aj p14 <| aj ff14 <| aj d14 <| aj u15 <| aj a15 <| aj s15 <| aj z15 <| aj q15 <| aj i15 <| aj n15 <| aj u16 <| aj a16 <| aj s16 <| aj z16 <| aj q16 <| aj i16 <| aj n16 <| aj u17 <| aj a17 <| aj s17 <| aj z17 <| aj q17 <| aj i17 <| aj n17 <| aj a18 <| aj s18 <| aj z18 <| aj i18 <| aj n18 <| aj p18 <| aj ff18 <| aj d18 <| aj a19 <| aj s19 <| aj z19 <| aj i19 <| aj n19 <| aj p19 <| aj ff19 <| aj d19 <| aj a20 <| aj s20 <| aj z20 <| aj q20 <| aj n20 <| aj u21 <| aj a21 <| aj s21 <| aj z21 <| aj i21 <| aj u22 <| aj a22 <| aj s22 <| aj z22 <| aj q22 <| aj n22 <| aj u23 <| aj a23 <| aj s23 <| aj z23 <| aj n23 <| aj u24 <| aj a24 <| aj s24 <| aj z24 <| aj n24 <| aj u25 <| aj a25 <| aj s25 <| aj z25 <| aj q25 <| aj n25 <| aj a26 <| aj s26 <| aj z26 <| aj i26 <| aj n26 <| aj p26 <| aj ff26 <| aj d26 <| aj a27 <| aj s27 <| aj z27 <| aj i27 <| aj n27 <| aj p27 <| aj ff27 <| aj d27 <| aj a28 <| aj s28 <| aj z28 <| aj n28 <| aj u29 <| aj a29 <| aj s29 <| aj z29 <| aj q29 <| aj n29 <| aj a30 <| aj s30 <| aj z30 <| aj i30 <| aj n30 <| aj p30 <| aj ff30 <| aj d30 <| aj a31 <| aj s31 <| aj z31 <| aj i31 <| aj n31 <| aj p31 <| aj ff31 <| aj d31 <| aj a32 <| aj s32 <| aj z32 <| aj n32 <| aj u33 <| aj a33 <| aj s33 <| aj z33 <| aj q33 <| aj i33 <| aj n33 <| aj a34 <| aj s34 <| aj z34 <| aj q34 <| aj n34 <| aj a35 <| aj s35 <| aj z35 <| aj q35 <| aj n35 <| aj u38 <| aj a38 <| aj s38 <| aj z38 <| aj q38 <| aj n38 <| aj a40 <| aj s40 <| aj z40 <| aj i40 <| aj n40 <| aj p40 <| aj ff40 <| aj d40 <| aj u43 <| aj a43 <| aj s43 <| aj z43 <| aj q43 <| aj n43 <| aj u44 <| aj a44 <| aj s44 <| aj z44 <| aj q44 <| aj n44 <| aj a46 <| aj s46 <| aj z46 <| aj i46 <| aj n46 <| aj p46 <| aj ff46 <| aj d46 <| aj u47 <| aj a47 <| aj s47 <| aj z47 <| aj i47 <| aj a51 <| aj s51 <| aj z51 <| aj i51 <| aj n51 <| aj p51 <| aj ff51 <| aj d51 <| aj a56 <| aj s56 <| aj z56 <| aj i56 <| aj n56 <| aj p56 <| aj ff56 <| aj d56 <| aj u156 <| aj a156 <| aj s156 <| aj z156 <| aj q156 <| aj i156 <| aj n156 <| aj u163 <| aj a163 <| aj s163 <| aj z163 <| aj q163 <| aj n163 <| aj a165 <| aj s165 <| aj z165 <| aj i165 <| aj n165 <| aj p165 <| aj ff165 <| aj d165 <| aj u231 <| aj a231 <| aj s231 <| aj z231 <| aj i231 <| aj u283 <| aj a283 <| aj s283 <| aj z283 <| aj i283 <| aj a300 <| aj s300 <| aj z300 <| aj i300 <| aj n300 <| aj p300 <| aj ff300 <| aj d300 <| aj u301 <| aj a301 <| aj s301 <| aj z301 <| aj n301 <| aj a303 <| aj s303 <| aj z303 <| aj i303 <| aj n303 <| aj u305 <| aj a305 <| aj s305 <| aj z305 <| aj i305 <| aj a306 <| aj s306 <| aj z306 <| aj n306 <| aj u307 <| aj a307 <| aj s307 <| aj z307 <| aj i307 <| aj u308 <| aj a308 <| aj s308 <| aj z308 <| aj i308 <| aj a310 <| aj s310 <| aj z310 <| aj i310 <| aj n310 <| aj p310 <| aj ff310 <| d310
def andO (x y : Option Bool) : Option Bool := match x with
 | some true => y
 | r => r
theorem eq_event (a b c : Int) : c8 Tryz.abEnv 40 51 (.agg ⟨[.int .i64 a, .int .i64 0, .int .i64 b, .int .i64 c]⟩) (.agg ⟨[.int .i64 a, .int .i64 0, .int .i64 b, .int .i64 c]⟩) = andO (some (eD a a)) (andO (some (eD 0 0)) (andO (some (eD b b)) (andO (some (eD c c)) (some true)))) := by kernel_rfl
theorem ok_event : Tryz.abEnv.eqok 51 = true := by kernel_rfl
theorem n_event {x y : Operand} {e : Ev} : aS Tryz.abEnv .neq 51 x y (.agg ⟨c9 e⟩) (.agg ⟨c9 e⟩) = some (.bool false) := by
 have e1 : ∀ z : Int, eD z z = true := fun z => by cases z <;> simp [eD, Nat.beq_refl]
 have e2 := eq_event e.kind e.id e.lab
 simp only [e1, andO] at e2
 show (du Tryz.abEnv 51 x y (.agg ⟨c9 e⟩) (.agg ⟨c9 e⟩)).map (fun r => Value.bool (!r)) = _
 have e3 : du Tryz.abEnv 51 x y (.agg ⟨c9 e⟩) (.agg ⟨c9 e⟩) = (bif Tryz.abEnv.eqok 51 then c8 Tryz.abEnv 40 51 (.agg ⟨c9 e⟩) (.agg ⟨c9 e⟩) else none) := rfl
 rw [e3, ok_event]
 show (c8 Tryz.abEnv 40 51 (.agg ⟨c9 e⟩) (.agg ⟨c9 e⟩)).map _ = _
 rw [show c8 Tryz.abEnv 40 51 (.agg ⟨c9 e⟩) (.agg ⟨c9 e⟩) = some true from e2]
 rfl
theorem encN_ints (l : List Nat) : l.flatMap cL = (l.map fun (x : Nat) => (x : Int)).flatMap (encI .i64) := by
 rw [List.flatMap_map]; rfl
theorem aG.toI {h : Hp} {v : Value} {l : List Nat} (s : aG h 1 cL v l) : aG h 1 (encI .i64) v (l.map fun (x : Nat) => (x : Int)) := by
 rcases s with ⟨e, rfl⟩ | ⟨b, o, s, c, e, h1, h2⟩
 · exact .inl ⟨e, rfl⟩
 · exact .inr ⟨b, o, s, c, by rw [e, List.length_map], by rw [List.length_map]; exact h1, by rw [List.length_map, h2, encN_ints]⟩
theorem cF.rowL {h : Hp} {v : Value} {k : Nat} {vs : List Value} (g : cF h (v, k, vs)) (hv : vs ≠ []) : ∃ b n, v = .slice (some ⟨b, 0, some k⟩) n n ∧ n * k = vs.length ∧ Row h b vs 1 := by
 rcases g with ⟨_, e⟩ | ⟨b, n, e1, e2, e3⟩
 · exact absurd e hv
 · exact ⟨b, n, e1, e2, e3⟩
theorem ends_len {A : List Arc} {N s to : Nat} {al : Nat → Bool} {pi : Nat → Int} {σ : SS} {r : Fd} (hA : ∀ a ∈ A, a.t < N ∧ a.w ≤ dq) (hN : N ≤ 12) (hl : A.length ≤ 100) (he : Ends A al pi to σ r) : Sv A N s al pi σ → σ.ev.length ≤ σ.O.length * 200 → r.arcs.length ≤ 12 ∧ r.ev.length ≤ 3000 := by
 induction he with
 | @none σ hn =>
   intro h hev
   have := h.len
   exact ⟨Nat.zero_le _, by show σ.ev.length ≤ 3000; omega⟩
 | @hit σ k hp =>
   intro h hev
   have h1 := h.len
   have h2 := (h.bd to).2
   refine ⟨by show (σ.P to).reverse.length ≤ 12; rw [List.length_reverse]; omega, ?_⟩
   show (σ.ev ++ [_]).length ≤ 3000
   simp; omega
 | @step σ v k r hp hne _ ih =>
   intro h hev
   obtain ⟨h1, h2⟩ := h.next hA hp.1
   refine ih h1 ?_
   have e1 := qK A al pi v (cm σ v)
   have e2 : (cm σ v).ev.length = σ.ev.length + 1 := by show (σ.ev ++ [_]).length = _; simp
   rw [h2.O]
   show _ ≤ (σ.O ++ [v]).length * 200
   simp; omega
theorem found_len {γ : Gra} (hγ : Good γ) {s to : Nat} (hs : s < γ.nodes) {al : Nat → Bool} {pi : Nat → Int} {fd : Fd} (he : (s = to ∧ fd = ⟨0, [], []⟩) ∨ (s ≠ to ∧ Ends γ.arcs al pi to (iB pi s) fd)) : fd.arcs.length ≤ 12 ∧ fd.ev.length ≤ 3000 := by
 rcases he with ⟨_, rfl⟩ | ⟨_, he⟩
 · exact ⟨Nat.zero_le _, Nat.zero_le _⟩
 · refine ends_len (fun a ha => ⟨(hγ.arcs a ha).2.1, (hγ.arcs a ha).2.2⟩) hγ.n2 hγ.many he (sv_init hs) ?_
   have k0 : (iB pi s).ev.length = 0 := by unfold iB; rw [ns]; rfl
   omega
theorem cF.gr {h h' : Hp} {p : GL} (G : cF h p) (g : Gr h h') : cF h' p := G.of_get fun b hb => g.get b (G.lt g.ok0 hb)
theorem cF.keep {M : Nat → Prop} {h h' : Hp} {p : GL} (G : cF h p) (g : Mo M h h') (hm : ∀ c, av p.1 c → ¬ M c) : cF h' p := G.of_get fun b hb => g.get b (G.lt g.ok0 hb) (hm b (by
 rcases G with ⟨e1, _⟩ | ⟨b', n', e1, _⟩
 · obtain ⟨v, k, vs⟩ := p
   simp only [] at e1
   subst e1
   cases hb
 · obtain ⟨v, k, vs⟩ := p
   simp only [] at e1
   subst e1
   cases hb
   rfl))
theorem cF.blt {h : Hp} (ok : h.t.Sized h.n) {p : GL} (G : cF h p) {c : Nat} (hc : av p.1 c) : c < h.n := G.lt ok (jU G hc)
theorem nl {h0 : Hp} (ok : h0.t.Sized h0.n) {vB vY : Value} {B : List Int} {e0 e1 w0 w1 w2 : Nat} (hB : SlW h0 .u8 vB B) (fY : Fl vY) (i0 : e0 ≤ 255) (i1 : e1 ≤ 255) (i2 : w0 ≤ 255) (i3 : w1 ≤ 255) (i4 : w2 ≤ 255) :
 dl Tryz.abEnv 3 [.agg ⟨[vB, .int .u8 (e0 : Nat), .int .u8 (e1 : Nat), .int .u8 (w0 : Nat), .int .u8 (w1 : Nat), .int .u8 (w2 : Nat), vY]⟩] h0 (.bool true) := by
 have S := St.init (M := NoM) ok
 have fB := hB.sl.fl
 refine aq (n := 158) (rs := [.tmp 2]) rfl Tryz.e3 rfl rfl rfl (lbt rfl) ?_
 simp only [BS, Nat.reduceLT]
 refine ao (bn (by intro x e; cases e)) S ?_; clear S; intro h b1 S n_b1; simp only [ae] at S
 simp only [BS, LB]
 refine bH (tI S.ok) ?_; intro h g; replace S := S.call g; clear g
 simp only [BS, LB, Nat.reduceLT, Nat.reduceEqDiff, Tryz.FFsh43, List.drop_zero, List.take_succ_cons, List.take_zero, S.lds (b := b1) (o := 0) (n := 7) (by repeat constructor) (lbt rfl)]
 have old : ∀ {h : Hp}, Gr h0 h → ∀ {kd v xs}, SlW h0 kd v xs → SlW h kd v xs := fun g => fun s => s.imp (fun h => h) (fun ⟨b, o, c, h1, h2, h3⟩ => ⟨b, o, c, h1, h2, g.load h3⟩)
 have lt1 := (S.row (b := b1) m0).lt S.ok
 refine step_ret (tR S.ok (old S.gr hB) fY aF aF aF aF aF) ?_
 rintro r h ⟨g, γ, vx, vy, va, rfl, hγ, ga, hz⟩
 replace S := S.call g
 have n1 := hγ.n1
 have n2 := hγ.n2
 have many := hγ.many
 have fr := jO
 have fx := ga.X.fl
 have fy := ga.Y.fl
 have fa := ga.A.fl
 have Sx := S
 replace S := St.init (M := NoM) S.ok
 simp only [BS, Tryz.FFsh43, bS]
 refine ao aH S ?_; clear S; intro h b3 S n_b3
 simp only [BS, LB, Nat.reduceLT, Nat.reduceEqDiff]
 refine aa (S.store (i := 0) rfl Tryz.s31 (by intro x e; cases e) rfl (by simp only [ae, List.all_cons, List.all_nil, fx.2.1, fy.2.1, fa.2.1, Bool.and_true]; rfl) (lbt rfl) ono) ?_
 clear S; rintro h ⟨S, mo⟩
 clear mo
 simp only [List.set_cons_zero, List.set_cons_succ, ae, lay, List.take, List.drop, List.nil_append, List.cons_append, List.append_nil, List.length_cons, List.length_nil, Nat.reduceAdd, Nat.add_zero] at S
 have gX := S.gr
 have r_b3 := S.row (b := b3) m0
 replace S := Sx.call gX
 clear Sx
 have ga2 := ga.gr gX
 simp only [BS, LB, Nat.reduceLT, Nat.reduceEqDiff, Tryz.FFsh43, r_b3.load (o := 0) (n := 4) (lbt rfl), List.drop_zero, List.take_succ_cons, List.take_zero]
 have nn : Ret Tryz.abEnv 11 [bS γ vx vy va] h _ := netNew_ok S.ok hγ ga2
 unfold bS at nn
 refine step_ret nn ?_
 clear nn
 rintro r h ⟨pn, rfl, g, hp⟩
 have ga3 := ga2.gr g
 replace r_b3 := r_b3.gr g
 replace S := S.call g
 obtain ⟨bp, rfl⟩ : ∃ b, pn = ptrTo b := by obtain ⟨b, _, _, _, _, _, e, _⟩ := hp.ex; exact ⟨b, e⟩
 simp only [BS, LB, Nat.reduceLT, Nat.reduceEqDiff, Tryz.FFsh43, List.drop_zero, List.take_succ_cons, List.take_zero, r_b3.load (o := 0) (n := 4) (lbt rfl), S.lds (b := b1) (o := 0) (n := 7) (by repeat constructor) (lbt rfl)]
 have ak : Ret Tryz.abEnv 12 [.agg ⟨[vB, .int .u8 (e0 : Nat), .int .u8 (e1 : Nat), .int .u8 (w0 : Nat), .int .u8 (w1 : Nat), .int .u8 (w2 : Nat), vY]⟩, bS γ vx vy va] h _ := ask13_ok S.ok (old S.gr hB) fY i0 i1 i3 i4 hγ ga3
 unfold bS at ak
 refine step_ret ak ?_
 clear ak
 rintro r h ⟨g, s, t, vA, vP, als, pis, rfl, hs, ht, sA, hA', sP, hP, cA⟩
 have fA := sA.fl
 have fP := sP.fl
 have lA : als.length ≤ 1000 := by rcases hA' with rfl | h; simp; omega
 have lP : pis.length ≤ 1000 := by rcases hP with rfl | h; simp; omega
 replace hp := hp.gr g
 replace S := S.call g
 have Sx := S
 replace S := St.init (M := NoM) S.ok
 simp only [BS, Tryz.FFsh43, askV]
 refine ao aH S ?_; clear S; intro h b6 S n_b6
 simp only [BS, LB, Nat.reduceLT, Nat.reduceEqDiff]
 refine aa (S.store (i := 0) rfl Tryz.s40 (by intro x e; cases e) rfl (by simp only [ae, List.all_cons, List.all_nil, fA.2.1, fP.2.1, Bool.and_true]; rfl) (lbt rfl) ono) ?_
 clear S; rintro h ⟨S, mo⟩
 clear mo
 simp only [List.set_cons_zero, List.set_cons_succ, ae, lay, List.take, List.drop, List.nil_append, List.cons_append, List.append_nil, List.length_cons, List.length_nil, Nat.reduceAdd, Nat.add_zero] at S
 have gX := S.gr
 have r_b6 := S.row (b := b6) m0
 replace S := Sx.call gX
 clear Sx
 replace hp := hp.gr gX
 replace sA := sA.gr gX
 replace sP := sP.gr gX
 simp only [BS, LB, Nat.reduceLT, Nat.reduceEqDiff, Tryz.FFsh43, List.drop_zero, List.take_succ_cons, List.take_zero, r_b6.load (o := 0) (n := 4) (lbt rfl)]
 have ck : Ret Tryz.abEnv 13 [askV s t vA vP] h _ := so S.ok sA lA sP lP
 unfold askV at ck
 refine step_ret ck ?_
 clear ck
 rintro r h ⟨g, uA, uP, rfl, tA, tP⟩
 have gA := tA.fl
 have gP := tP.fl
 replace hp := hp.gr g
 replace sA := sA.gr g
 replace sP := sP.gr g
 replace r_b6 := r_b6.gr g
 replace S := S.call g
 have Sx := S
 replace S := St.init (M := NoM) S.ok
 simp only [BS, Tryz.FFsh43]
 refine ao aH S ?_; clear S; intro h b7 S n_b7
 simp only [BS, LB, Nat.reduceLT, Nat.reduceEqDiff]
 refine aa (S.store (i := 0) rfl Tryz.s40 (by intro x e; cases e) rfl (by simp only [ae, List.all_cons, List.all_nil, gA.2.1, gP.2.1, Bool.and_true]; rfl) (lbt rfl) ono) ?_
 clear S; rintro h ⟨S, mo⟩
 clear mo
 simp only [List.set_cons_zero, List.set_cons_succ, ae, lay, List.take, List.drop, List.nil_append, List.cons_append, List.append_nil, List.length_cons, List.length_nil, Nat.reduceAdd, Nat.add_zero] at S
 have gX := S.gr
 have r_b7 := S.row (b := b7) m0
 replace S := Sx.call gX
 clear Sx
 replace hp := hp.gr gX
 replace sA := sA.gr gX
 replace sP := sP.gr gX
 replace tA := tA.gr gX
 replace tP := tP.gr gX
 replace r_b6 := r_b6.gr gX
 have gE := S.gr
 have okE := S.ok
 clear S gX ga2 ga3 g old
 rename Hp => hE
 have S := St.init (M := NoM) okE
 simp only [BS, LB, Nat.reduceLT, Nat.reduceEqDiff, Tryz.FFsh43, List.drop_zero, List.take_succ_cons, List.take_zero, r_b6.load (o := 0) (n := 4) (lbt rfl)]
 refine step_ret (oe S.ok hγ hp hs ht sA hA' sP hP) ?_
 rintro r h ⟨g, v, fd, rfl, ⟨xA, xE, rfl, G1, G2, d1, d2⟩, he⟩
 have f1 : Fl xA := G1.fl
 have f2 : Fl xE := G2.fl
 have ok1 := g.ok
 have S := St.init (M := NoM) ok1
 simp only [BS, LB, Nat.reduceLT, Nat.reduceEqDiff, Tryz.FFsh43]
 refine ao aH S ?_; clear S; intro h b8 S n_b8
 simp only [BS, LB, Nat.reduceLT, Nat.reduceEqDiff]
 refine aa (S.store (i := 0) rfl Tryz.s46 (by intro x e; cases e) rfl (by simp only [ae, List.all_cons, List.all_nil, f1.2.1, f2.2.1, Bool.and_true]; rfl) (lbt rfl) ono) ?_
 clear S; rintro h ⟨S, mo⟩
 clear mo
 simp only [List.set_cons_zero, List.set_cons_succ, ae, lay, List.take, List.drop, List.nil_append, List.cons_append, List.append_nil, List.length_cons, List.length_nil, Nat.reduceAdd, Nat.add_zero] at S
 have b8x : ∀ c, av xA c ∨ av xE c → c < b8 := fun c hc => by
  have : c < _ := hc.elim (fun h => G1.blt ok1 h) (fun h => G2.blt ok1 h)
  omega
 have r8 := S.row (b := b8) m0
 have g1 := g.trans S.gr
 replace G1 := G1.gr S.gr
 replace G2 := G2.gr S.gr
 have okC := S.ok
 clear S
 have S := St.init (M := NoM) okC
 have z8 := r8.lt okC
 have j0 := r8.load1 (o := 0) rfl
 have j1 := r8.load1 (o := 1) rfl
 have j2 := r8.load1 (o := 2) rfl
 obtain ⟨lenA, lenE⟩ := found_len hγ hs he
 have sl1 : aG h 1 cL xA fd.arcs := G1.sl rfl gn (by decide)
 have sl2 : aG h 4 c9 xE fd.ev := G2.sl rfl gD (by decide)
 simp only [BS, LB, Nat.reduceLT, Nat.reduceEqDiff]
 refine az (aD rfl) (q := 100) (ps := [(1, 9), (5, 8), (1, 5)]) (by kernel_rfl) ?_
 simp only [BS, LB, cls, Nat.reduceLT, Nat.reduceEqDiff, Nat.reduceAdd, Nat.reducePow, Nat.reduceDiv, Nat.reduceMod, Nat.reduceLeDiff, Tryz.FFsh43, S.old j0 (fun h => h)]
 refine bM (bu (by first | exact Tryz.u22 | exact Tryz.u25 | exact Tryz.u29 | exact Tryz.u38 | exact Tryz.u43 | exact Tryz.u44 | exact Tryz.u163) (by first | exact Tryz.e2E | exact Tryz.e3E | exact Tryz.e4E | exact Tryz.e5E | exact Tryz.e43E | exact Tryz.e51E | exact Tryz.e56E) (by decide) (by first | rfl | exact fillE )) S ?_; clear S; intro h bs1 S n_bs1 e_bs1; simp only [aO, aT, ae, List.cons_append, List.nil_append, List.append_nil, List.set_cons_zero, List.set_cons_succ, Nat.reduceMul, Nat.reduceAdd, Nat.zero_mul, Nat.zero_add, Nat.mul_one, Nat.one_mul] at S
 simp only [BS, LB, cls, Nat.reduceLT, Nat.reduceEqDiff, Nat.reduceAdd, Nat.reducePow, Nat.reduceDiv, Nat.reduceMod, Nat.reduceLeDiff, Tryz.FFsh43, S.old j1 (fun h => h)]
 have l5 := (S.row (b := bs1) m0).lt S.ok
 refine ly S (enc := cL) Tryz.u43 Tryz.e3E (by decide) Tryz.n43 (sl1.gr S.gr) gn (by decide) (by omega) (S.row (b := bs1) m0) ?_
 intro h v1 g2 s1 q1 _
 have p1 : ∀ c, av v1 c → bs1 ≤ c := fun c hc => by have := q1 c hc; omega
 have gn2 := g2.n
 replace S := (S.call g2).drop1; clear g2
 have Sb := S
 replace S := St.init (M := NoM) S.ok
 simp only [BS, LB, cls, Nat.reduceAdd, Nat.reducePow, Nat.reduceDiv, Nat.reduceMod, Nat.reduceLeDiff]
 refine bM (bu (by first | exact Tryz.u22 | exact Tryz.u25 | exact Tryz.u29 | exact Tryz.u38 | exact Tryz.u43 | exact Tryz.u44 | exact Tryz.u163) (by first | exact Tryz.e2E | exact Tryz.e3E | exact Tryz.e4E | exact Tryz.e5E | exact Tryz.e43E | exact Tryz.e51E | exact Tryz.e56E) (by decide) (by first | rfl | exact fillE )) S ?_; clear S; intro h bs2 S n_bs2 e_bs2; simp only [aO, aT, ae, List.cons_append, List.nil_append, List.append_nil, List.set_cons_zero, List.set_cons_succ, Nat.reduceMul, Nat.reduceAdd, Nat.zero_mul, Nat.zero_add, Nat.mul_one, Nat.one_mul] at S
 have gS := Sb.gr.trans S.gr
 replace s1 := s1.gr S.gr
 simp only [BS, LB, cls, Nat.reduceLT, Nat.reduceEqDiff, Nat.reduceAdd, Nat.reducePow, Nat.reduceDiv, Nat.reduceMod, Nat.reduceLeDiff, Tryz.FFsh43, gS.load j2]
 refine hQ (S.cloneW (enc := c9) Tryz.u44 Tryz.e51E (by decide) Tryz.n44 (sl2.gr gS) gD (by decide) (by omega) (S.row (b := bs2) m0)) ?_
 have nb2 := n_bs2
 have kS := Sb.fr.n
 clear S; rintro h ev2 ⟨S, g3, s2, q2, _⟩
 have p2 : ∀ c, av ev2 c → b8 < c := fun c hc => by have := q2 c hc; have := gS.n; omega
 simp only [BS, LB, cls, Nat.reduceLT, Nat.reduceEqDiff, Nat.reduceAdd, Nat.reducePow, Nat.reduceDiv, Nat.reduceMod, Nat.reduceLeDiff]
 have d5 : b8 ≠ bs1 := by omega
 have lt2 : bs1 < bs2 := by omega
 have d9 : b8 ≠ bs2 := by omega
 refine ⟨by simp only [cq, cC, bV, cK, cg, ne_eq, not_false_eq_true, cJ, da, cu, cj, dr, dW, bc, Nat.reduceLT, Nat.reduceEqDiff, reduceIte, Bool.and_true, ah, bN, nw, oP, bP d5, bP d9, bP d5.symm, bP d9.symm, bP (show bs1 ≠ bs2 by omega), bP (show bs2 ≠ bs1 by omega)], ?_⟩
 have gX := gS.trans g3
 have okX := g3.ok
 replace s1 := s1.gr g3
 replace G1 := G1.gr gX
 replace G2 := G2.gr gX
 replace r8 := r8.gr gX
 have gEX := g1.trans gX
 have u1 : ∀ c, av v1 c → ¬ av xA c ∧ ¬ av xE c := fun c hc => ⟨fun h => by have := p1 c hc; have := b8x c (.inl h); omega, fun h => by have := p1 c hc; have := b8x c (.inr h); omega⟩
 have u2 : ∀ c, av ev2 c → ¬ av xA c ∧ ¬ av xE c := fun c hc => ⟨fun h => by have := p2 c hc; have := b8x c (.inl h); omega, fun h => by have := p2 c hc; have := b8x c (.inr h); omega⟩
 have u8 : ¬ av xA b8 ∧ ¬ av xE b8 := ⟨fun h => by have := b8x b8 (.inl h); omega, fun h => by have := b8x b8 (.inr h); omega⟩
 clear gS g3 gX Sb S g1 j0 j1 j2 sl1 sl2 kS nb2 q1 q2 lt2 l5
 rename Hp => hX
 refine aW (fun (i : Nat) ρ h => i ≤ fd.arcs.length ∧ Mo (av xA) hX h ∧ (∃ cs, cF h (xA, 1, cs) ∧ cs.length = fd.arcs.length) ∧ ρ 4 = ptrTo bp ∧ ρ 6 = ptrTo b6 ∧ ρ 7 = ptrTo b7 ∧ ρ 8 = ptrTo b8 ∧ ρ 10 = .int .i64 (fd.dist : Nat) ∧ ρ 11 = v1 ∧ ρ 12 = ev2 ∧ ρ 13 = .int .i64 i) (fun i => fd.arcs.length - i) ?_ 0 _ _ ?_
 · intro i ih ρ h ⟨hi, m, ⟨cs, gA', lcs⟩, r4, r6, r7, r8', r10, r11, r12, r13⟩
   have w : aw .i64 ((i : Int) + 1) = ((i + 1 : Nat) : Int) := by rw [wrap64] <;> omega
   have r8h : Row h b8 _ 1 := m.has (o := .row _ 1) r8 u8.1
   have lq := fun (e : TypeId) (h : Hp) => gA'.lenq (e := e) (h := h) (n := fd.arcs.length) (by decide) (by omega)
   by_cases hlt : i < fd.arcs.length
   · obtain ⟨bA, nA, rfl, en, rowA⟩ := gA'.rowL (by intro e; rw [e] at lcs; simp only [List.length_nil] at lcs; omega)
     have en' : nA = fd.arcs.length := by omega
     subst en'
     simp only [BS, LB, Nat.reduceLT, Nat.reduceEqDiff, Tryz.FFsh43, r8', r13, r8h.load1 (o := 1) rfl, aL, hlt]
     have S := St.init1 m.ok (o := .row _ 1) rowA
     refine aa (ab S (i := 0) rfl Tryz.s3 aF (by omega) ono) ?_
     clear S; rintro h' ⟨S, mo⟩
     simp only [List.set_cons_zero, List.set_cons_succ] at S
     simp only [BS, LB, Nat.reduceLT, Nat.reduceEqDiff, r13, w]
     exact ih (i + 1) _ _ (by omega) ⟨by omega, m.trans mo (fun c hc => .inl (Eq.symm hc)), ⟨_, .inr ⟨bA, _, rfl, by simp [lcs], S.row m0⟩, by simp [lcs]⟩, by simp [ac, r4, ah], by simp [ac, r6, ah], by simp [ac, r7, ah], by simp [ac, r8', ah], by simp [ac, r10], by simp [ac, r11], by simp [ac, r12], by simp [ac]⟩
   · simp only [BS, LB, Nat.reduceLT, Nat.reduceEqDiff, Tryz.FFsh43, r8', r13, r8h.load1 (o := 1) rfl, lq, aL, hlt]
     have okA := m.ok
     have G2A := G2.keep m (fun c hc hm => (d1 c hm).2 hc)
     have r8A := r8h
     have s1A := s1.mo m (fun c hc hm => (u1 c hc).1 hm)
     have s2A := s2.mo m (fun c hc hm => (u2 c hc).1 hm)
     have mA := m
     clear m gA' ih lq r8h
     rename Hp => hA
     refine aW (fun (i : Nat) ρ h => i ≤ fd.ev.length ∧ Mo (av xE) hA h ∧ (∃ cs, cF h (xE, 4, cs) ∧ cs.length = fd.ev.length * 4) ∧ ρ 4 = ptrTo bp ∧ ρ 6 = ptrTo b6 ∧ ρ 7 = ptrTo b7 ∧ ρ 8 = ptrTo b8 ∧ ρ 10 = .int .i64 (fd.dist : Nat) ∧ ρ 11 = v1 ∧ ρ 12 = ev2 ∧ ρ 14 = .int .i64 i) (fun i => fd.ev.length - i) ?_ 0 _ _ ?_
     · clear r4 r6 r7 r8' r10 r11 r12 r13 hi hlt w
       intro i ih ρ h ⟨hi, m, ⟨cs, gE', lcs⟩, r4, r6, r7, r8', r10, r11, r12, r14⟩
       have w : aw .i64 ((i : Int) + 1) = ((i + 1 : Nat) : Int) := by rw [wrap64] <;> omega
       have r8h : Row h b8 _ 1 := m.has (o := .row _ 1) r8A u8.2
       have lq := fun (e : TypeId) (h : Hp) => gE'.lenq (e := e) (h := h) (n := fd.ev.length) (by decide) (by omega)
       by_cases hlt : i < fd.ev.length
       · obtain ⟨bE, nE, rfl, en, rowE⟩ := gE'.rowL (by intro e; rw [e] at lcs; simp only [List.length_nil] at lcs; omega)
         have en' : nE = fd.ev.length := by omega
         subst en'
         simp only [BS, LB, Nat.reduceLT, Nat.reduceEqDiff, Tryz.FFsh43, r8', r14, r8h.load1 (o := 2) rfl, aL, hlt]
         have S := St.init1 m.ok (o := .row _ 1) rowE
         refine aa (ab S (i := 0) rfl Tryz.s3 aF (by omega) ono) ?_
         clear S; rintro h' ⟨S, mo⟩
         simp only [List.set_cons_zero, List.set_cons_succ] at S
         simp only [BS, LB, Nat.reduceLT, Nat.reduceEqDiff, r14, w]
         exact ih (i + 1) _ _ (by omega) ⟨by omega, m.trans mo (fun c hc => .inl (Eq.symm hc)), ⟨_, .inr ⟨bE, _, rfl, by simp [lcs], S.row m0⟩, by simp [lcs]⟩, by simp [ac, r4, ah], by simp [ac, r6, ah], by simp [ac, r7, ah], by simp [ac, r8', ah], by simp [ac, r10], by simp [ac, r11], by simp [ac, r12], by simp [ac]⟩
       · simp only [BS, LB, Nat.reduceLT, Nat.reduceEqDiff, Tryz.FFsh43, r4, r6, r8', r14, r8h.load1 (o := 2) rfl, lq, aL, hlt]
         have ok2 := m.ok
         have gE2 := (((gEX.fr (M := NoM)).trans mA (fun c hc => .inr (d1 c hc).1)).trans m (fun c hc => .inr (d2 c hc))).gr
         have s1B := s1A.mo m (fun c hc hm => (u1 c hc).2 hm)
         have s2B := s2A.mo m (fun c hc hm => (u2 c hc).2 hm)
         clear m gE' ih lq r8h mA
         simp only [BS, LB, Nat.reduceLT, Nat.reduceEqDiff, List.drop_zero, List.take_succ_cons, List.take_zero, (r_b6.gr gE2).load (o := 0) (n := 4) (lbt rfl)]
         refine step_ret (oe ok2 hγ (hp.gr gE2) hs ht (sA.gr gE2) hA' (sP.gr gE2) hP) ?_
         rintro r h3 ⟨g, vq, fd2, rfl, ⟨yA, yE, rfl, K1, K2, e1, e2⟩, he2⟩
         have efd : fd2 = fd := by
          rcases he with ⟨h1, h2⟩ | ⟨h1, h2⟩ <;> rcases he2 with ⟨h3, h4⟩ | ⟨h3, h4⟩
          · rw [h2, h4]
          · exact absurd h1 h3
          · exact absurd h3 h1
          · exact h4.uniq h2
         subst efd
         have k1 : Fl yA := K1.fl
         have k2 : Fl yE := K2.fl
         have S := St.init (M := NoM) g.ok
         simp only [BS, LB, Nat.reduceLT, Nat.reduceEqDiff, Tryz.FFsh43]
         refine ao aH S ?_; clear S; intro h b15 S n_b15
         simp only [BS, LB, Nat.reduceLT, Nat.reduceEqDiff]
         refine aa (S.store (i := 0) rfl Tryz.s46 (by intro x e; cases e) rfl (by simp only [ae, List.all_cons, List.all_nil, k1.2.1, k2.2.1, Bool.and_true]; rfl) (lbt rfl) ono) ?_
         clear S; rintro h4 ⟨S, mo⟩
         clear mo
         simp only [List.set_cons_zero, List.set_cons_succ, ae, lay, List.take, List.drop, List.nil_append, List.cons_append, List.append_nil, List.length_cons, List.length_nil, Nat.reduceAdd, Nat.add_zero] at S
         have r15 := S.row (b := b15) m0
         have g4 := g.trans S.gr
         have gF := gE2.trans g4
         replace K1 := K1.gr S.gr
         replace K2 := K2.gr S.gr
         have L62 := (r_b6.gr gF).load1 (o := 2) rfl
         have L63 := (r_b6.gr gF).load1 (o := 3) rfl
         have L72 := (r_b7.gr gF).load1 (o := 2) rfl
         have L73 := (r_b7.gr gF).load1 (o := 3) rfl
         replace sA := sA.gr gF
         replace sP := sP.gr gF
         replace tA := tA.gr gF
         replace tP := tP.gr gF
         replace s1B := s1B.gr g4
         replace s2B := s2B.gr g4
         have j0 := r15.load1 (o := 0) rfl
         have j1 := r15.load1 (o := 1) rfl
         have j2 := r15.load1 (o := 2) rfl
         have sl1 : aG h4 1 cL yA fd2.arcs := K1.sl rfl gn (by decide)
         have sl2 : aG h4 4 c9 yE fd2.ev := K2.sl rfl gD (by decide)
         have gAll := gE.trans gF
         have ok4 := S.ok
         clear S
         simp only [BS, LB, Nat.reduceLT, Nat.reduceEqDiff]
         have cb : ∀ b : Bool, (bif b then b else !b) = true := by decide
         refine aW (fun (i : Nat) ρ h => h = h4 ∧ i ≤ als.length ∧ ρ 6 = ptrTo b6 ∧ ρ 7 = ptrTo b7 ∧ ρ 10 = .int .i64 (fd2.dist : Nat) ∧ ρ 11 = v1 ∧ ρ 12 = ev2 ∧ ρ 15 = ptrTo b15 ∧ ρ 17 = .int .i64 i) (fun i => als.length - i) ?_ 0 _ _ ?_
         · clear r4 r6 r7 r8' r10 r11 r12 r14 hi hlt w
           intro i ih ρ h ⟨eh, hi, r6, r7, r10, r11, r12, r15', r17⟩
           subst eh
           have w : aw .i64 ((i : Int) + 1) = ((i + 1 : Nat) : Int) := by rw [wrap64] <;> omega
           by_cases hlt : i < als.length
           · obtain ⟨c1, o1, x1, y1⟩ := sA.ix (kd := .i64) ja hlt
             obtain ⟨c2, o2, x2, y2⟩ := tA.ix (kd := .i64) ja hlt
             simp only [BS, LB, Nat.reduceLT, Nat.reduceEqDiff, Tryz.FFsh43, r6, r17, L62, sA.lenq, aL, hlt]
             refine az (aD rfl) (q := 0) (ps := []) (by kernel_rfl) ?_
             simp only [BS, LB, cls, Nat.reduceLT, Nat.reduceEqDiff, Nat.reduceAdd, Nat.reducePow, Nat.reduceDiv, Nat.reduceMod, Nat.reduceLeDiff, Tryz.FFsh43, r6, r7, r17, L62, L72, x1, y1, x2, y2, jz, cb, w]
             exact ih (i + 1) _ _ (by omega) ⟨rfl, by omega, by simp [ac, r6, ah], by simp [ac, r7, ah], by simp [ac, r10], by simp [ac, r11], by simp [ac, r12], by simp [ac, r15', ah], by simp [ac]⟩
           · simp only [BS, LB, Nat.reduceLT, Nat.reduceEqDiff, Tryz.FFsh43, r6, r17, L62, sA.lenq, aL, hlt]
             clear ih
             refine aW (fun (i : Nat) ρ h' => h' = h ∧ i ≤ pis.length ∧ ρ 6 = ptrTo b6 ∧ ρ 7 = ptrTo b7 ∧ ρ 10 = .int .i64 (fd2.dist : Nat) ∧ ρ 11 = v1 ∧ ρ 12 = ev2 ∧ ρ 15 = ptrTo b15 ∧ ρ 18 = .int .i64 i) (fun i => pis.length - i) ?_ 0 _ _ ?_
             · clear r6 r7 r10 r11 r12 r15' r17 hi hlt w
               intro i ih ρ h' ⟨eh, hi, r6, r7, r10, r11, r12, r15', r18⟩
               subst eh
               have w : aw .i64 ((i : Int) + 1) = ((i + 1 : Nat) : Int) := by rw [wrap64] <;> omega
               by_cases hlt : i < pis.length
               · obtain ⟨c1, o1, x1, y1⟩ := sP.ix (kd := .i64) (dH .i64) hlt
                 obtain ⟨c2, o2, x2, y2⟩ := tP.ix (kd := .i64) (dH .i64) hlt
                 simp only [BS, LB, Nat.reduceLT, Nat.reduceEqDiff, Tryz.FFsh43, r6, r18, L63, sP.lenq, aL, hlt]
                 refine az (aD rfl) (q := 0) (ps := []) (by kernel_rfl) ?_
                 simp only [BS, LB, cls, Nat.reduceLT, Nat.reduceEqDiff, Nat.reduceAdd, Nat.reducePow, Nat.reduceDiv, Nat.reduceMod, Nat.reduceLeDiff, Tryz.FFsh43, r6, r7, r18, L63, L73, x1, y1, x2, y2, encI, w]
                 exact ih (i + 1) _ _ (by omega) ⟨rfl, by omega, by simp [ac, r6, ah], by simp [ac, r7, ah], by simp [ac, r10], by simp [ac, r11], by simp [ac, r12], by simp [ac, r15', ah], by simp [ac]⟩
               · simp only [BS, LB, Nat.reduceLT, Nat.reduceEqDiff, Tryz.FFsh43, r6, r18, L63, sP.lenq, aL, hlt]
                 clear ih
                 refine aW (fun (i : Nat) ρ h => h = h' ∧ i ≤ fd2.ev.length ∧ ρ 6 = ptrTo b6 ∧ ρ 7 = ptrTo b7 ∧ ρ 10 = .int .i64 (fd2.dist : Nat) ∧ ρ 11 = v1 ∧ ρ 12 = ev2 ∧ ρ 15 = ptrTo b15 ∧ ρ 19 = .int .i64 i) (fun i => fd2.ev.length - i) ?_ 0 _ _ ?_
                 · clear r6 r7 r10 r11 r12 r15' r18 hi hlt w
                   intro i ih ρ h ⟨eh, hi, r6, r7, r10, r11, r12, r15', r19⟩
                   subst eh
                   have w : aw .i64 ((i : Int) + 1) = ((i + 1 : Nat) : Int) := by rw [wrap64] <;> omega
                   by_cases hlt : i < fd2.ev.length
                   · obtain ⟨c1, o1, x1, y1⟩ := sl2.ix (kd := .i64) gD hlt
                     obtain ⟨c2, o2, x2, y2⟩ := s2B.ix (kd := .i64) gD hlt
                     have cl : ¬ ((fd2.ev.length : Int) ≤ (i : Int)) := by omega
                     simp only [BS, LB, Nat.reduceLT, Nat.reduceEqDiff, Tryz.FFsh43, r12, r19, s2B.lenq, aL, hlt]
                     refine az (aD rfl) (q := 0) (ps := []) (by kernel_rfl) ?_
                     simp only [BS, LB, cls, Nat.reduceLT, Nat.reduceEqDiff, Nat.reduceAdd, Nat.reducePow, Nat.reduceDiv, Nat.reduceMod, Nat.reduceLeDiff, Tryz.FFsh43, r12, r15', r19, j2, sl2.lenq, cl, x1, y1, x2, y2, n_event, w]
                     exact ih (i + 1) _ _ (by omega) ⟨rfl, by omega, by simp [ac, r6, ah], by simp [ac, r7, ah], by simp [ac, r10], by simp [ac, r11], by simp [ac, r12], by simp [ac, r15', ah], by simp [ac]⟩
                   · simp only [BS, LB, Nat.reduceLT, Nat.reduceEqDiff, Tryz.FFsh43, r10, r11, r12, r15', r19, s2B.lenq, aL, hlt, j0, j1]
                     refine bH (tO ok4 sl1.toI s1B.toI (by rw [List.length_map]; omega)) ?_
                     intro h' g5
                     have jj := g5.load j2
                     simp only [BS, LB, an, Nat.reduceLT, Nat.reduceEqDiff, Tryz.FFsh43, r12, r15', jj, sl2.lenq, s2B.lenq]
                     exact gAll.trans g5
                 · exact ⟨rfl, Nat.zero_le _, by simp [ac, r6, ah], by simp [ac, r7, ah], by simp [ac, r10], by simp [ac, r11], by simp [ac, r12], by simp [ac, r15', ah], by simp [ac]⟩
             · exact ⟨rfl, Nat.zero_le _, by simp [ac, r6, ah], by simp [ac, r7, ah], by simp [ac, r10], by simp [ac, r11], by simp [ac, r12], by simp [ac, r15', ah], by simp [ac]⟩
         · exact ⟨rfl, Nat.zero_le _, by simp [ac, r6, ah], by simp [ac, r7, ah], by simp [ac, r10], by simp [ac, r11], by simp [ac, r12], by simp [ac, ah], by simp [ac]⟩
     · exact ⟨Nat.zero_le _, Mo.refl okA, ⟨_, G2A, aK gD _⟩, by simp [ac, r4, ah], by simp [ac, r6, ah], by simp [ac, r7, ah], by simp [ac, r8', ah], by simp [ac, r10], by simp [ac, r11], by simp [ac, r12], by simp [ac]⟩
 · exact ⟨Nat.zero_le _, Mo.refl okX, ⟨_, G1, lz _⟩, by simp [ac, ah], by simp [ac, ah], by simp [ac, ah], by simp [ac, ah], by simp [ac], by simp [ac], by simp [ac], by simp [ac]⟩
end Go.Ab

end
section
namespace Go.Ab
open Go.ChangeShapes Go.WideShapes Go.RowKit
theorem rowAt_le {P : Program} {fits : TypeId → Bool} {d : Nat} {e : TypeId} {count off n : Nat} (h : rowAt P fits d e count off n = true) : off ≤ count * P.cellsOf e := by
 cases d with
 | zero => cases h
 | succ d =>
   unfold rowAt at h
   simp only [] at h
   split at h
   · cases h
   · rename_i hs
     have hpos : 0 < P.cellsOf e := by omega
     have hdm := Nat.div_add_mod off (P.cellsOf e)
     simp only [Bool.or_eq_true, Bool.and_eq_true, beq_iff_eq, decide_eq_true_eq] at h
     rcases h with ⟨⟨h1, h2⟩, _⟩ | ⟨h1, _⟩
     · have : P.cellsOf e * (off / P.cellsOf e) ≤ P.cellsOf e * count := Nat.mul_le_mul_left _ (by omega)
       rw [Nat.mul_comm count]; omega
     · have : P.cellsOf e * (off / P.cellsOf e + 1) ≤ P.cellsOf e * count := Nat.mul_le_mul_left _ (by omega)
       have hlt := Nat.mod_lt off hpos
       rw [Nat.mul_add, Nat.mul_one] at this
       rw [Nat.mul_comm count]; omega
theorem liesAt_le {P : Program} {d : Nat} : ∀ {e : TypeId} {count off : Nat} {u : TypeId} {n : Nat}, liesAt P d e count off u n = true → off ≤ count * P.cellsOf e := by
 induction d with
 | zero => intro e count off u n h; cases h
 | succ d ih =>
   intro e count off u n h
   unfold liesAt at h
   rw [Bool.or_eq_true] at h
   rcases h with h | h
   · exact rowAt_le h
   · split at h
     · exact ih h
     · cases h
theorem has_W {P : Program} {W : World} {r : _root_.Go.Reach} {base : Nat} {a : Addr} {e : TypeId} {n : Nat} (h : W.has P r base a e n) : a.spot = none ∧ a.block < W.heap.size ∧ ∃ l, (hpW W).load (a.block + 16) a.off 0 = some l := by
 obtain ⟨_, hsp, row, cells, hsh, hl⟩ := h
 have hle := liesAt_le hl
 have hle2 : a.off ≤ cells := Nat.le_trans hle (Nat.div_mul_le_self _ _)
 unfold World.shape? at hsh
 split at hsh
 next cs el fz ho =>
  cases hsh
  have hlt := (Array.getElem?_eq_some_iff.1 ho).1
  have hr : Row (hpW W) (a.block + 16) (cs.toList.map (gu W.heap.size)) 0 := ⟨_, _, by rw [mc, ho]; rfl, Tr.sized_ofList _, fun j => Tr.get_ofList _ j⟩
  exact ⟨hsp, hlt, _, hr.load (o := a.off) (n := 0) (by simpa using hle2)⟩
 · cases hsh
section
variable {H : Type} {enc : TypeId × Value → H} {P : Program}
theorem kT {W : World} {base fuel : Nat} {s e : TypeId} {k : IntKind} {c : Value} {sp : Nat → Bool} {hd : Bool} {x : DataW H × List MemPlace} (hs : P.underlying s = some (.slice e)) (he : P.underlying e = some (.int k)) (hc : P.cellsOf e = 1)
 (hok : Cell.okWide P W .any base s c) (h : DataW.trod enc P W 0 sp hd fuel s [c] = some x) : ∃ zs : List Int, SlW (hpW W) k (gu W.heap.size c) zs ∧ (∀ z ∈ zs, (Lit.int k z).wf = true) ∧ zs.length ≤ 9223372036854775807 := by
 rcases Go.ChangeShapes.open_ints hs he hc h with ⟨e1, _⟩ | ⟨a, len, cap, zs, e1, hb, hl, hm, hz, _, hcell, hwf⟩
 · cases e1
   exact ⟨[], .inl ⟨rfl, rfl⟩, fun z hz => (by cases hz), by simp⟩
 · cases e1
   unfold Cell.okWide at hok
   rw [hs] at hok
   simp only [Cell.ok, hs] at hok
   obtain ⟨hle1, hmax, hhas⟩ := hok
   obtain ⟨hsp, hlt, h0⟩ := has_W hhas
   have hlz : len ≤ zs.length := by rw [hz]; split <;> omega
   refine ⟨zs.take len, .inr ⟨a.block + 16, a.off, cap, ?_, ?_, ?_⟩, fun z hz => hwf z (List.mem_of_mem_take hz), by
    have : (cap : Int) ≤ 9223372036854775807 := hmax
    rw [List.length_take]; omega⟩
   · rw [List.length_take, Nat.min_eq_left hlz]
     simp only [gu, if_pos hl, if_pos (And.intro hsp hlt)]
   · rw [List.length_take, Nat.min_eq_left hlz]; exact hl
   · rw [List.length_take, Nat.min_eq_left hlz, Nat.mul_one]
     rw [load_join (f := fun i => .int k (zs.getD i 0)) h0 (fun i hi => load_W hsp (hcell i (by omega)))]
     congr 1
     have e4 : ∀ l : List Int, l.flatMap (encI k) = l.map fun x => .int k x := fun l => by
      rw [List.flatMap_eq_foldl, List.map_eq_flatMap, List.flatMap_eq_foldl]; rfl
     rw [e4]
     refine List.ext_getElem? fun i => ?_
     rw [List.getElem?_map, List.getElem?_map, List.getElem?_take]
     by_cases hi : i < len
     · rw [if_pos hi, List.getElem?_range hi, List.getElem?_eq_getElem (show i < zs.length by omega)]
       simp [List.getD_eq_getElem?_getD, show i < zs.length by omega]
     · rw [if_neg hi, List.getElem?_eq_none (by simpa using hi)]; rfl
theorem open_slV {W : World} {base : Nat} {s e : TypeId} {k : IntKind} {v : Value} {sp : Nat → Bool} {hd : Bool} {d : DataW H} {p : List MemPlace} (hs : P.underlying s = some (.slice e)) (he : P.underlying e = some (.int k)) (hc : P.cellsOf e = 1)
 (hval : Value.okWide P W .any base s v) (h : DataW.Trod enc P W 0 sp hd s v d p) : ∃ zs : List Int, SlW (hpW W) k (absA W.heap.size v) zs ∧ (∀ z ∈ zs, (Lit.int k z).wf = true) ∧ zs.length ≤ 9223372036854775807 := by
 unfold Value.okWide at hval
 rw [hs] at hval
 obtain ⟨fuel, h⟩ := h
 have hc0 : ∀ l : Array Value, v ≠ .agg l := by
  rintro l rfl
  simp only [Cell.okWide, hs, Cell.ok] at hval
 have hcs : v.cells.toList = [v] := by cases v <;> first | rfl | exact absurd rfl (hc0 _)
 rw [hcs] at h
 have ha : absA W.heap.size v = gu W.heap.size v := by cases v <;> first | rfl | exact absurd rfl (hc0 _)
 rw [ha]
 exact kT hs he hc hval h
theorem open_sl2 {W : World} {base : Nat} {t s e : TypeId} {k : IntKind} {f0 f1 : Field} {v : Value} {sp : Nat → Bool} {hd : Bool} {d : DataW H} {p : List MemPlace} (ht : P.underlying t = some (.struct #[f0, f1])) (o0 : f0.offset = 0) (o1 : f1.offset = 1) (t0 : f0.type = s) (t1 : f1.type = s)
 (hs : P.underlying s = some (.slice e)) (he : P.underlying e = some (.int k)) (hc : P.cellsOf e = 1) (hcs : P.cellsOf s = 1) (hct : P.cellsOf t = 2) (hts : P.cellTypes P.depth t = some [s, s])
 (hval : Value.okWide P W .any base t v) (h : DataW.Trod enc P W 0 sp hd t v d p) :
 ∃ (c0 c1 : Value) (xs ys : List Int), v = .agg #[c0, c1] ∧ SlW (hpW W) k (gu W.heap.size c0) xs ∧ SlW (hpW W) k (gu W.heap.size c1) ys ∧ (∀ z ∈ xs, (Lit.int k z).wf = true) ∧ ∀ z ∈ ys, (Lit.int k z).wf = true := by
 unfold Value.okWide at hval
 rw [ht] at hval
 obtain ⟨cs, rfl, hsz, ts, e1, _, hrow⟩ := hval
 rw [hts] at e1
 cases e1
 rw [hct] at hsz
 obtain ⟨l⟩ := cs
 simp only [List.size_toArray] at hsz
 obtain ⟨c0, c1, rfl⟩ := len2 hsz
 obtain ⟨fuel, h⟩ := h
 obtain ⟨y0, y1, n, _, _, h1, h2⟩ := Go.ChangeShapes.trod_struct2 ht h
 rw [o0, t0, hcs] at h1
 rw [o1, t1, hcs] at h2
 obtain ⟨u0, e0, k0⟩ := hrow 0 c0 rfl
 obtain ⟨u1, e1, k1⟩ := hrow 1 c1 rfl
 cases e0
 cases e1
 obtain ⟨xs, hx, wx, _⟩ := kT hs he hc k0 h1
 obtain ⟨ys, hy, wy, _⟩ := kT hs he hc k1 h2
 exact ⟨c0, c1, xs, ys, rfl, hx, hy, wx, wy⟩
end
end Go.Ab

end
section
namespace Go.Ab
open Go.ChangeShapes Go.WideShapes Go.RowKit
section
variable {H : Type} {enc : TypeId × Value → H} {P : Program}
theorem open_arr2 {W : World} {base : Nat} {t e : TypeId} {k : IntKind} {v : Value} {sp : Nat → Bool} {hd : Bool} {d : DataW H} {p : List MemPlace} (ht : P.underlying t = some (.array 2 e)) (he : P.underlying e = some (.int k)) (hce : P.cellsOf e = 1) (hct : P.cellsOf t = 2)
 (hval : Value.okWide P W .any base t v) (h : DataW.Trod enc P W 0 sp hd t v d p) : ∃ x y : Int, v = .agg #[.int k x, .int k y] ∧ (Lit.int k x).wf = true ∧ (Lit.int k y).wf = true := by
 unfold Value.okWide at hval
 rw [ht] at hval
 obtain ⟨cs, rfl, hsz, _⟩ := hval
 rw [hct] at hsz
 obtain ⟨l⟩ := cs
 simp only [List.size_toArray] at hsz
 obtain ⟨a, b, rfl⟩ : ∃ a b, l = [a, b] := by
  match l, hsz with
  | [a, b], _ => exact ⟨a, b, rfl⟩
 obtain ⟨fuel, h⟩ := h
 obtain ⟨xs, m, _, _, _, hlen, hf⟩ := DataW.trod_array ht h
 obtain ⟨y0, y1, rfl⟩ : ∃ a b, xs = [a, b] := by
  match xs, hlen with
  | [a, b], _ => exact ⟨a, b, rfl⟩
 have q0 := hf 0 (by decide)
 have q1 := hf 1 (by decide)
 rw [hce] at q0 q1
 obtain ⟨x, e0, _, w0⟩ := DataW.trod_int he q0
 obtain ⟨y, e1, _, w1⟩ := DataW.trod_int he q1
 cases e0
 cases e1
 exact ⟨x, y, rfl, w0, w1⟩
end
end Go.Ab

end
section
namespace Go.Ab
open Go.ChangeShapes Go.WideShapes Go.RowKit
section
variable {H : Type} {enc : TypeId × Value → H} {P : Program}
theorem ju {t e : TypeId} {k : IntKind} {n : Nat} {cs : List Value} {W : World} {sp : Nat → Bool} {hd : Bool} {fuel : Nat} {x : DataW H × List MemPlace} (ht : P.underlying t = some (.array n e)) (he : P.underlying e = some (.int k)) (hce : P.cellsOf e = 1) (h : DataW.trod enc P W 0 sp hd fuel t cs = some x) :
 ∀ i, i < n → ∃ z : Int, cs[i]? = some (.int k z) ∧ (Lit.int k z).wf = true := by
 obtain ⟨xs, m, _, _, _, hlen, hf⟩ := DataW.trod_array ht h
 intro i hi
 have q := hf i (by omega)
 rw [hce, Nat.mul_one] at q
 obtain ⟨y, hy⟩ : ∃ y, xs[i]? = some y := ⟨_, List.getElem?_eq_getElem (by omega)⟩
 rw [hy] at q
 obtain ⟨z, e0, _, w0⟩ := DataW.trod_int he q
 refine ⟨z, ?_, w0⟩
 have := congrArg (·[0]?) e0
 simpa using this
theorem len7 {α : Type} {l : List α} (h : l.length = 7) : ∃ a b c d e f g, l = [a, b, c, d, e, f, g] := by
 match l, h with
 | [a, b, c, d, e, f, g], _ => exact ⟨a, b, c, d, e, f, g, rfl⟩
theorem open_d13 {W : World} {base : Nat} {t s0 a2 a3 s3 e e3 : TypeId} {f0 f1 f2 f3 : Field} {v : Value} {sp : Nat → Bool} {hd : Bool} {d : DataW H} {p : List MemPlace} (ht : P.underlying t = some (.struct #[f0, f1, f2, f3])) (o0 : f0.offset = 0) (o1 : f1.offset = 1) (o2 : f2.offset = 3) (o3 : f3.offset = 6)
 (t0 : f0.type = s0) (t1 : f1.type = a2) (t2 : f2.type = a3) (t3 : f3.type = s3) (h0 : P.underlying s0 = some (.slice e)) (h1 : P.underlying a2 = some (.array 2 e)) (h2 : P.underlying a3 = some (.array 3 e)) (h3 : P.underlying s3 = some (.slice e3))
 (g0 : P.underlying e = some (.int .u8)) (g3 : P.underlying e3 = some (.int .i64)) (c0 : P.cellsOf e = 1) (c3 : P.cellsOf e3 = 1) (d0 : P.cellsOf s0 = 1) (d1 : P.cellsOf a2 = 2) (d2 : P.cellsOf a3 = 3) (d3 : P.cellsOf s3 = 1) (hct : P.cellsOf t = 7) (hts : P.cellTypes P.depth t = some [s0, e, e, e, e, e, s3])
 (hval : Value.okWide P W .any base t v) (h : DataW.Trod enc P W 0 sp hd t v d p) :
 ∃ (a b : Value) (x y z1 z2 z3 : Int) (B N : List Int), v = .agg #[a, .int .u8 x, .int .u8 y, .int .u8 z1, .int .u8 z2, .int .u8 z3, b] ∧ SlW (hpW W) .u8 (gu W.heap.size a) B ∧ SlW (hpW W) .i64 (gu W.heap.size b) N ∧
   (∀ z ∈ B, (Lit.int .u8 z).wf = true) ∧ (∀ z ∈ N, (Lit.int .i64 z).wf = true) ∧ (Lit.int .u8 x).wf = true ∧ (Lit.int .u8 y).wf = true ∧ (Lit.int .u8 z1).wf = true ∧ (Lit.int .u8 z2).wf = true ∧ (Lit.int .u8 z3).wf = true ∧ N.length ≤ 9223372036854775807 := by
 unfold Value.okWide at hval
 rw [ht] at hval
 obtain ⟨cs, rfl, hsz, ts, e1, _, hrow⟩ := hval
 rw [hts] at e1
 cases e1
 rw [hct] at hsz
 obtain ⟨l⟩ := cs
 simp only [List.size_toArray] at hsz
 obtain ⟨a, x1, x2, y1, y2, y3, b, rfl⟩ := len7 hsz
 obtain ⟨fuel, h⟩ := h
 obtain ⟨xs, n, _, _, hl, hlen, hf⟩ := DataW.trod_struct ht h
 obtain ⟨z0, z1, z2, z3, rfl⟩ := len4 (by rw [hlen]; rfl : xs.length = 4)
 have q0 := hf 0 f0 rfl
 have q1 := hf 1 f1 rfl
 have q2 := hf 2 f2 rfl
 have q3 := hf 3 f3 rfl
 rw [o0, t0, d0] at q0
 rw [o1, t1, d1] at q1
 rw [o2, t2, d2] at q2
 rw [o3, t3, d3] at q3
 have r : ∀ (j : Nat) t v, [s0, e, e, e, e, e, s3][j % 7]? = some t → [a, x1, x2, y1, y2, y3, b][j]? = some v → Cell.okWide P W .any base t v := fun j t v h1 h2 => by
  obtain ⟨u, h3, h4⟩ := hrow j v (by simpa using h2)
  obtain rfl : t = u := Option.some.inj (h1.symm.trans h3)
  exact h4
 obtain ⟨B, hB, wB, _⟩ := kT h0 g0 c0 (r 0 s0 a rfl rfl) q0
 obtain ⟨N, hN, wN, lN⟩ := kT h3 g3 c3 (r 6 s3 b rfl rfl) q3
 obtain ⟨k1, i1, j1⟩ := ju h1 g0 c0 q1 0 (by decide)
 obtain ⟨k2, i2, j2⟩ := ju h1 g0 c0 q1 1 (by decide)
 obtain ⟨k3, i3, j3⟩ := ju h2 g0 c0 q2 0 (by decide)
 obtain ⟨k4, i4, j4⟩ := ju h2 g0 c0 q2 1 (by decide)
 obtain ⟨k5, i5, j5⟩ := ju h2 g0 c0 q2 2 (by decide)
 cases i1
 cases i2
 cases i3
 cases i4
 cases i5
 exact ⟨a, b, k1, k2, k3, k4, k5, B, N, rfl, hB, hN, wB, wN, j1, j2, j3, j4, j5, lN⟩
end
end Go.Ab

end
