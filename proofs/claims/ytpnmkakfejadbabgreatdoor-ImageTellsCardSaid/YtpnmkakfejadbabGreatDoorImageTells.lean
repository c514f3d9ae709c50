import Derived.Test.YtpnmkakfejadbabGreatDoorKttC
import Derived.Test.YtpnmkakfejadbabGreatDoorRows
import Derived.Test.YtpnmkakfejadbabGreatDoorCards
import Derived.Test.YtpnmkakfejadbabGreatDoorTie
import Derived.LaidLaws
import Derived.LaidHandle
import Derived.Stop.Joined
import Derived.SevenTiedAt
import Derived.RowKit
import Derived.RowKitTokens
import Derived.WalkKit
import Derived.ProofKit
import Derived.OpenShut
import Derived.ChangeArms
set_option maxHeartbeats 4000000
namespace Go.Ab
open Go.ChangeShapes Go.WideShapes Go.RowKit
theorem l3Z {α:Type} {l:List α} (h:l.length=3):∃a b c,l=[a,b,c]:=by match l,h with | [a,b,c],_ => exact ⟨a,b,c,rfl⟩
theorem oaZ {H:Type} {enc:TypeId×Value→H} {P:Program} {W:World} {n:Nat} {t e:TypeId} {v:Value} {s:Nat→Bool} {b:Bool} {d:DataW H} {p:List MemPlace} (ht:P.underlying t=some (.array 3 e)) (he:P.underlying e=some (.int .u8)) (hc:P.cellsOf e=1) (hd:P.cellsOf t=3) (hv:Value.okWide P W .any n t v) (h:DataW.Trod enc P W 0 s b t v d p):∃x y z:Int,v=.agg #[.int .u8 x,.int .u8 y,.int .u8 z]∧(Lit.int .u8 x).wf=true∧(Lit.int .u8 y).wf=true∧(Lit.int .u8 z).wf=true:=by
  unfold Value.okWide at hv;rw [ht] at hv;obtain ⟨⟨l⟩,rfl,hs,_⟩:=hv;rw [hd] at hs;obtain ⟨a,b,c,rfl⟩:=l3Z (by simpa using hs);obtain ⟨_,h⟩:=h;obtain ⟨xs,_,_,_,_,hl,hf⟩:=DataW.trod_array ht h;obtain ⟨_,_,_,rfl⟩:=l3Z hl;have q:=hf 0 (by decide);have r:=hf 1 (by decide);have u:=hf 2 (by decide);rw [hc] at q r u;obtain ⟨x,e0,_,w⟩:=DataW.trod_int he q;obtain ⟨y,e1,_,k⟩:=DataW.trod_int he r;obtain ⟨z,e2,_,m⟩:=DataW.trod_int he u;cases e0;cases e1;cases e2;exact ⟨x,y,z,rfl,w,k,m⟩
end Go.Ab
namespace Go.Proofs.YtpnmkakfejadbabGreatDoor.imageTells
open Go.ChangeShapes Go.WideShapes Go.ChangeAt Go.RowKit
abbrev LM := laidMetH Tryz.prog [("errors.errorType", Rows.laid_errors_errorType)]
theorem own : ownKnob Tryz.prog.godebug = none := by kernel_rfl
theorem loZ : laidOutB Tryz.prog = true := by kernel_rfl
theorem u8 : ∀ z, (Lit.int .u8 z).wf = true → 0 ≤ z ∧ z ≤ 255 := fun z h => by unfold Lit.wf at h;simp only [Bool.and_eq_true, decide_eq_true_eq] at h;exact h
def waZ : Array Value := #[.agg #[.slice .none 0 0, .slice .none 0 0, .slice .none 0 0, .int .u8 0, .slice .none 0 0], .agg #[.int .u8 0, .int .u8 0, .int .u8 0], .string ⟨#[]⟩]
noncomputable def lwZ (os : Os) : World :=
  let w0 := World.holding Tryz.prog os ⟨#[], #[], []⟩
  { w0 with heap := w0.heap.modify 0 fun
      | .cells _ t frozen => .cells #[.iface 302 (.agg #[.pointer (some ⟨1, 58, none⟩)])] t frozen| o => o }
theorem lmZ (os : Os) (args : Array Value) : LM ((lwZ os).forCall (fun _ _ => 0) ⟨#[], args, []⟩).memory :=
  laidMetH_of_parts (laidMet_nil _ _) (by kernel_rfl)
set_option maxRecDepth 100000 in
theorem lifted (os : Os) (started : os.Started) (H : Type) (enc : TypeId × Value → H) :
    ReturnsInHanded {} Tryz.checked os 3 .any (fun w args => (Rows.imageTellsSpec.pre enc Tryz.prog Tryz.f3 [] false w args ∧ LM w) ∧ sizedMet enc Tryz.prog Tryz.f3 (OpenSpec.ofChange Rows.imageTellsSpec) false w args)
      (Rows.imageTellsSpec.post enc Tryz.prog Tryz.f3 false true false false) := by
  refine returnsInHanded_of_change_and (C := Tryz.checked) (X := fun w _ => LM w) (fun _ _ _ hh h => h.of_heap hh) own started (by kernel_rfl) Tryz.func3
    (ChangeSpec.witness_at (enc := enc) (C := Tryz.checked) (os := os) (X := fun w _ => LM w) false (lwZ os) waZ 8 rfl (by kernel_rfl) (by kernel_rfl) (by kernel_rfl) (by kernel_rfl) (by kernel_rfl) (lmZ os _)) ?_
  intro W base args ds gs before hval0 hW _ _ _ _;have hval : ∀ (j : Nat) t v, Tryz.f3.params[j]? = some t → args[j]? = some v → Value.okWide Tryz.prog W .any base t v := hval0;have hW' := hW;obtain ⟨p, q, hA0, hV, rfl, hfz, hnd⟩ := hW;have hA : DataW.TrodAll enc Tryz.prog W 0 (fun _ => true) true Tryz.f3.params.toList args.toList ds p := hA0;rw [Tryz.params3] at hA hval;obtain ⟨v0, vs0, d0, ds0, p0, q0, hargs, rfl, rfl, h0, r0⟩ := trodAll_cons hA;obtain ⟨v1, vs1, d1, ds1, p1, q1, rfl, rfl, rfl, h1, r1⟩ := trodAll_cons r0;obtain ⟨v2, vs2, d2, ds2, p2, q2, rfl, rfl, rfl, h2, r2⟩ := trodAll_cons r1;obtain ⟨rfl, rfl, rfl⟩ := trodAll_nil r2;obtain rfl : args = #[v0, v1, v2] := by cases args; simp_all
  obtain ⟨rfl, rfl⟩ := trodVars_none hV;obtain ⟨c0, c1, c2, c4, x3, zB, zO, zM, zN, rfl, hB, hO, hM, hN, wO, wM, wN, wu⟩ := Go.Ab.open_d28 Tryz.underlying25 rfl rfl rfl rfl rfl rfl rfl rfl rfl rfl Tryz.underlying22 Tryz.underlying5 Tryz.underlying23 Tryz.underlying5 Tryz.underlying2 (by kernel_rfl) (by kernel_rfl) (by kernel_rfl) (by kernel_rfl) (by kernel_rfl) (by kernel_rfl) (by kernel_rfl) (hval 0 25 v0 rfl rfl) h0;obtain ⟨x1, y1, z1, rfl, wx1, wy1, wz1⟩ := Go.Ab.oaZ Tryz.underlying26 Tryz.underlying5 (by kernel_rfl) (by kernel_rfl) (hval 1 26 v1 rfl rfl) h1;obtain ⟨l2, rfl⟩ : ∃ l : Go.Ab.Bs, v2 = Go.Ab.sv l := by obtain ⟨s, rfl, _⟩ := Go.ChangeMaps.open_string Tryz.underlying9 (hval 2 9 v2 rfl rfl) h2;exact ⟨s.data.toList, rfl⟩
  clear hA0 hval0;refine (Go.Ab.calls_W Go.Ab.Tryz.abOk (args := #[.agg #[c0, c1, c2, .int .u8 x3, c4], .agg #[.int .u8 x1, .int .u8 y1, .int .u8 z1], Go.Ab.sv l2]) (Go.Ab.yv (Go.Ab.hpW_ok W) hB hO (fun z hz => u8 z (wO z hz)) hM (fun z hz => u8 z (wM z hz)) hN (fun z hz => Go.Ab.wf64 (wN z hz)) (u8 _ wu) (u8 x1 wx1) (u8 y1 wy1) (u8 z1 wz1))).mono fun e W' ⟨he, hb⟩ => ?_;subst he;exact ⟨_, rfl, Go.Ab.BG (bt := 4) loZ (by kernel_rfl) rfl hW' rfl hb Tryz.underlying4 (by kernel_rfl)⟩
theorem over : Rows.imageTellsRow.holds Tryz.pinned (OpenSpec.ofChange Rows.imageTellsSpec) :=
  OpenClaim.holds_of_wide 3 Tryz.f3 rfl rfl rfl rfl rfl rfl rfl ⟨rfl, rfl, rfl, rfl, rfl⟩ rfl rfl rfl rfl rfl (by kernel_rfl) Tryz.func3 (by kernel_rfl)
    (of_decide_eq_true (by kernel_rfl)) (by unfold Func.isWrapper; first | (rw [if_pos (by decide +kernel)]; kernel_rfl) | (rw [if_neg (by decide +kernel)]; exact ⟨rfl, rfl⟩))
    (fun os started H enc _ => lifted os started H enc)
theorem proved : Rows.ImageTellsCardSaid :=
  Claim7.holds_tied_plain_at .later [] [.handle] true (true, "83ffefed58777e849901b96257cccff6f1b12cdbee1ec8a20ad4a0943ce60bda") true
    over (fun _ h => by cases h) (by kernel_rfl) (fun _ h => by cases h) imageTells_row_tie rfl ⟨rfl, rfl⟩ (by kernel_rfl) rfl
    (fun f fn hf hfn => by
      obtain rfl : f = 3 := Option.some.inj ((show Tryz.prog.funcNamed Tryz.f3.name = some 3 by kernel_rfl).symm.trans hf) |>.symm;obtain rfl : fn = Tryz.f3 := (Option.some.inj (Tryz.func3.symm.trans hfn)).symm;exact ⟨by kernel_rfl, fun j t ht => by
        rw [Tryz.params3] at ht;rcases j with _ | _ | _ | j
        all_goals first | (simp at ht;done) | (simp at ht;subst ht;kernel_rfl)⟩)
    (by kernel_rfl)
#print axioms proved
end Go.Proofs.YtpnmkakfejadbabGreatDoor.imageTells
