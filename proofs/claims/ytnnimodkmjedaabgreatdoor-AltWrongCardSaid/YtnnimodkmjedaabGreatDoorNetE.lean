/- Nets, cells, flags: what the functions do (part 5). -/
import Derived.Test.YtnnimodkmjedaabGreatDoorNetD
import Derived.ChangeSlices
import Derived.ChangeArms
import Derived.ChangeSame
import Derived.OpenShut
set_option maxHeartbeats 4000000
set_option linter.defProp false
set_option linter.unusedVariables false
set_option linter.unusedSimpArgs false
section
namespace Go.Ab
open Go.ChangeShapes Go.WideShapes Go.RowKit
section
variable {H : Type} {enc : TypeId × Value -> H} {P : Program}
theorem open_d19 {W : World} {base : Nat} {t s0 tq i s3 e e3 : TypeId} {f0 f1 f2 f3 b0 b1 b2 b3 : Field} {v : Value} {sp : Nat -> Bool} {hd : Bool} {d : DataW H} {p : List MemPlace} (ht : P.underlying t = some (.struct #[f0, f1, f2, f3])) (o0 : f0.offset = 0) (o1 : f1.offset = 1) (o2 : f2.offset = 2) (o3 : f3.offset = 6)
 (t0 : f0.type = s0) (t1 : f1.type = s0) (t2 : f2.type = tq) (t3 : f3.type = s3) (hq : P.underlying tq = some (.struct #[b0, b1, b2, b3])) (u0 : b0.offset = 0) (u1 : b1.offset = 1) (u2 : b2.offset = 2) (u3 : b3.offset = 3) (x0 : b0.type = i) (x1 : b1.type = i) (x2 : b2.type = i) (x3 : b3.type = i)
 (h0 : P.underlying s0 = some (.slice e)) (h3 : P.underlying s3 = some (.slice e3)) (hi : P.underlying i = some (.int .i64))
 (g0 : P.underlying e = some (.int .u8)) (g3 : P.underlying e3 = some (.int .i64)) (c0 : P.cellsOf e = 1) (c3 : P.cellsOf e3 = 1) (d0 : P.cellsOf s0 = 1) (dq : P.cellsOf tq = 4) (d3 : P.cellsOf s3 = 1) (di : P.cellsOf i = 1) (hct : P.cellsOf t = 7) (hts : P.cellTypes P.depth t = some [s0, s0, i, i, i, i, s3])
 (hval : Value.okWide P W .any base t v) (h : DataW.Trod enc P W 0 sp hd t v d p) :
 ∃ (a b c : Value) (y0 y1 y2 y3 : Int) (B M N : List Int), v = .agg #[a, b, .int .i64 y0, .int .i64 y1, .int .i64 y2, .int .i64 y3, c] /\ SlW (hpW W) .u8 (fT W.heap.size a) B /\ SlW (hpW W) .u8 (fT W.heap.size b) M /\ SlW (hpW W) .i64 (fT W.heap.size c) N /\
   (∀ z ∈ B, (Lit.int .u8 z).wf = true) /\ (∀ z ∈ M, (Lit.int .u8 z).wf = true) /\ (∀ z ∈ N, (Lit.int .i64 z).wf = true) /\ M.length <= 9223372036854775807 /\ N.length <= 9223372036854775807 := by
 unfold Value.okWide at hval
 rw [ht] at hval
 obtain ⟨cs, rfl, hsz, ts, e1, _, hrow⟩ := hval
 rw [hts] at e1
 cases e1
 rw [hct] at hsz
 obtain ⟨l⟩ := cs
 simp only [List.size_toArray] at hsz
 obtain ⟨a, b, y0, y1, y2, y3, c, rfl⟩ := len7 hsz
 obtain ⟨fuel, h⟩ := h
 obtain ⟨xs, n, _, _, hl, hlen, hf⟩ := DataW.trod_struct ht h
 obtain ⟨z0, z1, z2, z3, rfl⟩ := len4 (by rw [hlen]; rfl : xs.length = 4)
 have q0 := hf 0 f0 rfl
 have q1 := hf 1 f1 rfl
 have q2 := hf 2 f2 rfl
 have q3 := hf 3 f3 rfl
 rw [o0, t0, d0] at q0
 rw [o1, t1, d0] at q1
 rw [o2, t2, dq] at q2
 rw [o3, t3, d3] at q3
 have r : ∀ (j : Nat) t v, [s0, s0, i, i, i, i, s3][j % 7]? = some t -> [a, b, y0, y1, y2, y3, c][j]? = some v -> Cell.okWide P W .any base t v := fun j t v h1 h2 => by
  obtain ⟨u, h3, h4⟩ := hrow j v (by simpa using h2)
  obtain rfl : t = u := Option.some.inj (h1.symm.trans h3)
  exact h4
 obtain ⟨B, hB, wB, _⟩ := jg h0 g0 c0 (r 0 s0 a rfl rfl) q0
 obtain ⟨M, hM, wM, lM⟩ := jg h0 g0 c0 (r 1 s0 b rfl rfl) q1
 obtain ⟨N, hN, wN, lN⟩ := jg h3 g3 c3 (r 6 s3 c rfl rfl) q3
 obtain ⟨ys, n2, _, _, hl2, hlen2, hf2⟩ := DataW.trod_struct hq q2
 obtain ⟨w0, w1, w2, w3, rfl⟩ := len4 (by rw [hlen2]; rfl : ys.length = 4)
 have k0 := hf2 0 b0 rfl
 have k1 := hf2 1 b1 rfl
 have k2 := hf2 2 b2 rfl
 have k3 := hf2 3 b3 rfl
 rw [u0, x0, di] at k0
 rw [u1, x1, di] at k1
 rw [u2, x2, di] at k2
 rw [u3, x3, di] at k3
 obtain ⟨n0, e0, _, _⟩ := DataW.trod_int hi k0
 obtain ⟨n1, e1, _, _⟩ := DataW.trod_int hi k1
 obtain ⟨n2, e2, _, _⟩ := DataW.trod_int hi k2
 obtain ⟨n3, e3, _, _⟩ := DataW.trod_int hi k3
 cases e0
 cases e1
 cases e2
 cases e3
 exact ⟨a, b, c, n0, n1, n2, n3, B, M, N, rfl, hB, hM, hN, wB, wM, wN, lM, lN⟩
end
end Go.Ab

end
