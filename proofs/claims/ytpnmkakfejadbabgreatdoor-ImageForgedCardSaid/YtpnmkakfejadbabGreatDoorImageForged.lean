/- The law ImageForged holds: called with whatever arguments, in whatever memory and on every schedule it returns true, and what was there stays. No condition of its own. -/
import Derived.Test.YtpnmkakfejadbabGreatDoorKftC
import Derived.Test.YtpnmkakfejadbabGreatDoorRows
import Derived.Test.YtpnmkakfejadbabGreatDoorCards
import Derived.Test.YtpnmkakfejadbabGreatDoorTie
import Derived.LaidLaws
import Derived.LaidHandle
import Derived.Stop.Joined
import Derived.SevenTiedAt
import Derived.RowKit
import Derived.RowKitTokens
import Derived.WalkKit
import Derived.ProofKit
import Derived.OpenShut
import Derived.ChangeArms
set_option maxHeartbeats 4000000
set_option linter.unusedVariables false
namespace Go.Ab
open Go.ChangeShapes Go.WideShapes Go.RowKit
section
variable {H : Type} {enc : TypeId × Value → H} {P : Program}
theorem open_arr4 {W : World} {base : Nat} {t e : TypeId} {k : IntKind} {v : Value} {sp : Nat → Bool} {hd : Bool} {d : DataW H} {p : List MemPlace} (ht : P.underlying t = some (.array 4 e)) (he : P.underlying e = some (.int k)) (hce : P.cellsOf e = 1) (hct : P.cellsOf t = 4)
    (hval : Value.okWide P W .any base t v) (h : DataW.Trod enc P W 0 sp hd t v d p) : ∃ x y z u : Int, v = .agg #[.int k x, .int k y, .int k z, .int k u] ∧ (Lit.int k x).wf = true ∧ (Lit.int k y).wf = true ∧ (Lit.int k z).wf = true ∧ (Lit.int k u).wf = true := by
  unfold Value.okWide at hval
  rw [ht] at hval
  obtain ⟨cs, rfl, hsz, _⟩ := hval
  rw [hct] at hsz
  obtain ⟨l⟩ := cs
  simp only [List.size_toArray] at hsz
  obtain ⟨a, b, c, d, rfl⟩ : ∃ a b c d, l = [a, b, c, d] := by
    match l, hsz with
    | [a, b, c, d], _ => exact ⟨a, b, c, d, rfl⟩
  obtain ⟨fuel, h⟩ := h
  obtain ⟨xs, m, _, _, _, hlen, hf⟩ := DataW.trod_array ht h
  obtain ⟨y0, y1, y2, y3, rfl⟩ : ∃ a b c d, xs = [a, b, c, d] := by
    match xs, hlen with
    | [a, b, c, d], _ => exact ⟨a, b, c, d, rfl⟩
  have q0 := hf 0 (by decide)
  have q1 := hf 1 (by decide)
  have q2 := hf 2 (by decide)
  have q3 := hf 3 (by decide)
  rw [hce] at q0 q1 q2 q3
  obtain ⟨x, e0, _, w0⟩ := DataW.trod_int he q0
  obtain ⟨y, e1, _, w1⟩ := DataW.trod_int he q1
  obtain ⟨z, e2, _, w2⟩ := DataW.trod_int he q2
  obtain ⟨u, e3, _, w3⟩ := DataW.trod_int he q3
  cases e0
  cases e1
  cases e2
  cases e3
  exact ⟨x, y, z, u, rfl, w0, w1, w2, w3⟩
end
end Go.Ab
namespace Go.Proofs.YtpnmkakfejadbabGreatDoor.imageForged
open Go.ChangeShapes Go.WideShapes Go.ChangeAt Go.RowKit
theorem own : ownKnob Tryz.prog.godebug = none := by kernel_rfl
theorem laidOut : laidOutB Tryz.prog = true := by kernel_rfl
theorem u8 : ∀ z, (Lit.int .u8 z).wf = true → 0 ≤ z ∧ z ≤ 255 := fun z h => by unfold Lit.wf at h;simp only [Bool.and_eq_true, decide_eq_true_eq] at h;exact h
theorem i8 : ∀ z, (Lit.int .i8 z).wf = true → -128 ≤ z ∧ z ≤ 127 := fun z h => by unfold Lit.wf at h;simp only [Bool.and_eq_true, decide_eq_true_eq] at h;exact h
def witArgs : Array Value := #[.agg #[.slice .none 0 0, .slice .none 0 0, .slice .none 0 0, .int .u8 0, .slice .none 0 0], .agg #[.int .u8 0, .int .u8 0, .int .u8 0, .int .u8 0]]
/-- A world that meets the row's condition: the settled one, the variable's cell laid. -/
noncomputable def laidWorld (os : Os) : World :=
  let w0 := World.holding Tryz.prog os ⟨#[], #[], []⟩
  { w0 with heap := w0.heap.modify 0 fun
      | .cells _ t frozen => .cells #[.iface 302 (.agg #[.pointer (some ⟨1, 58, none⟩)])] t frozen| o => o }
theorem laidWorld_met (os : Os) (args : Array Value) : laidMetH Tryz.prog [("errors.errorType", Rows.laid_errors_errorType)] ((laidWorld os).forCall (fun _ _ => 0) ⟨#[], args, []⟩).memory :=
  laidMetH_of_parts (laidMet_nil _ _) (by kernel_rfl)
set_option maxRecDepth 100000 in
theorem lifted (os : Os) (started : os.Started) (H : Type) (enc : TypeId × Value → H) :
    ReturnsInHanded {} Tryz.checked os 4 .any (fun w args => (Rows.imageForgedSpec.pre enc Tryz.prog Tryz.f4 [] false w args ∧ laidMetH Tryz.prog [("errors.errorType", Rows.laid_errors_errorType)] w) ∧ sizedMet enc Tryz.prog Tryz.f4 (OpenSpec.ofChange Rows.imageForgedSpec) false w args)
      (Rows.imageForgedSpec.post enc Tryz.prog Tryz.f4 false true false false) := by
  refine returnsInHanded_of_change_and (C := Tryz.checked) (X := fun w _ => laidMetH Tryz.prog [("errors.errorType", Rows.laid_errors_errorType)] w) (fun _ _ _ hh h => h.of_heap hh) own started (by kernel_rfl) Tryz.func4
    (ChangeSpec.witness_at (enc := enc) (C := Tryz.checked) (os := os) (X := fun w _ => laidMetH Tryz.prog [("errors.errorType", Rows.laid_errors_errorType)] w) false (laidWorld os) witArgs 8 rfl (by kernel_rfl) (by kernel_rfl) (by kernel_rfl) (by kernel_rfl) (by kernel_rfl) (laidWorld_met os _)) ?_
  intro W base args ds gs before hval0 hW _ _ _ _;have hval : ∀ (j : Nat) t v, Tryz.f4.params[j]? = some t → args[j]? = some v → Value.okWide Tryz.prog W .any base t v := hval0;have hW' := hW;obtain ⟨p, q, hA0, hV, rfl, hfz, hnd⟩ := hW;have hA : DataW.TrodAll enc Tryz.prog W 0 (fun _ => true) true Tryz.f4.params.toList args.toList ds p := hA0;rw [Tryz.params4] at hA hval;obtain ⟨v0, vs0, d0, ds0, p0, q0, hargs, rfl, rfl, h0, r0⟩ := trodAll_cons hA;obtain ⟨v1, vs1, d1, ds1, p1, q1, rfl, rfl, rfl, h1, r1⟩ := trodAll_cons r0;obtain ⟨rfl, rfl, rfl⟩ := trodAll_nil r1;obtain rfl : args = #[v0, v1] := by cases args; simp_all
  obtain ⟨rfl, rfl⟩ := trodVars_none hV;obtain ⟨c0, c1, c2, c4, x3, zB, zO, zM, zN, rfl, hB, hO, hM, hN, wO, wM, wN, wu⟩ := Go.Ab.open_d28 Tryz.underlying25 rfl rfl rfl rfl rfl rfl rfl rfl rfl rfl Tryz.underlying22 Tryz.underlying5 Tryz.underlying23 Tryz.underlying5 Tryz.underlying2 (by kernel_rfl) (by kernel_rfl) (by kernel_rfl) (by kernel_rfl) (by kernel_rfl) (by kernel_rfl) (by kernel_rfl) (hval 0 25 v0 rfl rfl) h0;obtain ⟨x1, y1, z1, u1, rfl, wx1, wy1, wz1, wu1⟩ := Go.Ab.open_arr4 Tryz.underlying48 Tryz.underlying5 (by kernel_rfl) (by kernel_rfl) (hval 1 48 v1 rfl rfl) h1;clear hA0 hval0;refine (Go.Ab.calls_W Go.Ab.Tryz.abOk (args := #[.agg #[c0, c1, c2, .int .u8 x3, c4], .agg #[.int .u8 x1, .int .u8 y1, .int .u8 z1, .int .u8 u1]]) (Go.Ab.wZ (Go.Ab.hpW_ok W) hB hO (fun z hz => u8 z (wO z hz)) hM (fun z hz => u8 z (wM z hz)) hN (fun z hz => Go.Ab.wf64 (wN z hz)) (u8 _ wu) (u8 x1 wx1) (u8 y1 wy1) (u8 z1 wz1) (u8 u1 wu1))).mono fun e W' ⟨he, hb⟩ => ?_;subst he;exact ⟨_, rfl, Go.Ab.Bi (bt := 4) laidOut (by kernel_rfl) rfl hW' rfl hb Tryz.underlying4 (by kernel_rfl)⟩
theorem over : Rows.imageForgedRow.holds Tryz.pinned (OpenSpec.ofChange Rows.imageForgedSpec) :=
  OpenClaim.holds_of_wide 4 Tryz.f4 rfl rfl rfl rfl rfl rfl rfl ⟨rfl, rfl, rfl, rfl, rfl⟩ rfl rfl rfl rfl rfl (by kernel_rfl) Tryz.func4 (by kernel_rfl)
    (of_decide_eq_true (by kernel_rfl)) (by unfold Func.isWrapper; first | (rw [if_pos (by decide +kernel)]; kernel_rfl) | (rw [if_neg (by decide +kernel)]; exact ⟨rfl, rfl⟩))
    (fun os started H enc _ => lifted os started H enc)
theorem proved : Rows.ImageForgedCardSaid :=
  Claim7.holds_tied_plain_at .later [] [.handle] true (true, "83ffefed58777e849901b96257cccff6f1b12cdbee1ec8a20ad4a0943ce60bda") true
    over (fun _ h => by cases h) (by kernel_rfl) (fun _ h => by cases h) imageForged_row_tie rfl ⟨rfl, rfl⟩ (by kernel_rfl) rfl
    (fun f fn hf hfn => by
      obtain rfl : f = 4 := Option.some.inj ((show Tryz.prog.funcNamed Tryz.f4.name = some 4 by kernel_rfl).symm.trans hf) |>.symm;obtain rfl : fn = Tryz.f4 := (Option.some.inj (Tryz.func4.symm.trans hfn)).symm;exact ⟨by kernel_rfl, fun j t ht => by
        rw [Tryz.params4] at ht;rcases j with _ | _ | j
        · obtain rfl : t = 25 := (by simpa using ht.symm);exact (show Tryz.prog.wantsStandIn 25 = false by kernel_rfl)
        · obtain rfl : t = 48 := (by simpa using ht.symm);exact (show Tryz.prog.wantsStandIn 48 = false by kernel_rfl)
        · simp at ht⟩)
    (by kernel_rfl)
#print axioms proved
end Go.Proofs.YtpnmkakfejadbabGreatDoor.imageForged
