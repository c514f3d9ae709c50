/- A deterministic evaluator of the model's code, and that the model follows it (part 3). -/
import Derived.Test.YtmhoojmmahpacacGreatDoorAbB
import Derived.Orders
import Derived.ChangeSame
import Derived.RowKit3
import Derived.JoinedOf
import Derived.KernelRfl
set_option maxHeartbeats 400000
set_option linter.defProp false
set_option linter.unusedVariables false
set_option linter.unusedSimpArgs false
/- Drawn orders: the invariant goes on. -/
namespace Go.Ab
section
variable {E : Env} {P : Program} (ok : EOk E P) {R : Rec} (hc : CallOk E P R.call) (hcode : CodeOk P R.code)
variable {ops : Array Oper} {q : Nat} {ps : List (Nat × Nat)} {M : List Nat} {L : Nat → Loc} {H : Nat → Hp} {T : Nat → Option Nat} {X : Nat → Bool} (D : DT E R ops q ps M L H T X)
variable {nr : Nat} {mu0 : Mu} {w0 : World}

theorem cut_self {mu : Mu} {n : Nat} (h : ∀ b, mu b ≠ .none → b < n) : cut mu n = mu := by
  grind[cut_lt,cut_ge,absurd]

theorem atC_add {S : Nat → Bool} {c p : Nat} (h : AtC E ops q X S c) (hp : p ≠ c) : AtC E ops q X (addS S p) c := by
  refine ⟨h.1, h.2.1.imp id fun ⟨o, a, b, e⟩ => ⟨o, a, b, by rw [addS_other S (Ne.symm hp)]; exact e⟩, fun i o hi ho hw => ?_⟩
  by_cases hip : i = p
  · subst hip; exact addS_same S i
  · rw [addS_other S hip]; exact h.2.2 i o hi ho hw

theorem hrel_stand {mu : Mu} {h h2 : Hp} {w : World} (hh : HRel mu h w) (hs : h2.t.Sized h2.n) (hn : h.n ≤ h2.n) (hg : ∀ b, b < h.n → h2.get b = h.get b) : HRel mu h2 w := by
  refine ⟨hs, fun b c base top hm => ?_, fun b hm => ?_, hh.inj, fun b hm => Nat.lt_of_lt_of_le (hh.lt b hm) hn⟩
  · obtain ⟨x, o, h1, h2', h3⟩ := hh.blk b c base top hm
    exact ⟨x, o, by rw [hg b (hh.lt b (by rw [hm]; simp))]; exact h1, h2', h3⟩
  · rw [hg b (hh.lt b (by rw [hm]; simp))]; exact hh.dead b hm

theorem RRel.cut {mu muT : Mu} {n : Nat} (hn : ∀ b, muT b ≠ .none → b < n) {t : Tr Value} {m : Nat} {ts tsT : Array Value} (h : RRel mu t m ts) (hT : RRel muT t m tsT) : RRel (cut mu n) t m ts := by
  refine ⟨h.size, h.sized, fun i v hv => ?_⟩
  obtain ⟨v', a, b⟩ := h.get i v hv
  obtain ⟨vT, _, c⟩ := hT.get i v hv
  exact ⟨v', a, VRel.cut hn c b⟩
theorem BRel.cut {mu muT : Mu} {n : Nat} (hn : ∀ b, muT b ≠ .none → b < n) {x : Blk} {base top baseT topT : Nat} {o oT : Obj} (h : BRel mu x base top o) (hT : BRel muT x baseT topT oT) : BRel (cut mu n) x base top o := by
  cases x with
  | dead => exact h
  | cells t sz el md =>
    obtain ⟨cs, el', fz, e, r⟩ := h
    obtain ⟨csT, elT, fzT, eT, rT⟩ := hT
    refine ⟨cs, el', fz, e, r.whole, r.fits, r.sized, fun i v hv => ?_, r.free⟩
    obtain ⟨v', a, b⟩ := r.get i v hv
    obtain ⟨vT, _, c⟩ := rT.get i v hv
    exact ⟨v', a, VRel.cut hn c b⟩
  | map es c =>
    obtain ⟨e0, es', e, r⟩ := h
    obtain ⟨_, esT, eT, rT⟩ := hT
    refine ⟨e0, es', e, r.1, fun i v v' hv hv' => ?_⟩
    obtain ⟨a1, a2, a3, a4⟩ := r.2 i v v' hv hv'
    obtain ⟨vT, b1, b2⟩ := rT.get hv
    grind[VRel.cut]
  | loop l =>
    obtain ⟨e0, l', e, r⟩ := h
    obtain ⟨_, lT, eT, rT⟩ := hT
    exact ⟨e0, l', e, r.fn, r.regs.cut hn rT.regs, r.params, r.assign, r.body, r.st, r.pending⟩
  | dfr => exact h

/-- A relation that is another one below n. -/
def glue (mu1 mu : Mu) (n : Nat) : Mu := fun b => if b < n then mu1 b else mu b
theorem glue_lt {mu1 mu : Mu} {n b : Nat} (h : b < n) : glue mu1 mu n b = mu1 b := by simp [glue, h]
theorem glue_ge {mu1 mu : Mu} {n b : Nat} (h : n ≤ b) : glue mu1 mu n b = mu b := by simp [glue, Nat.not_lt.2 h]

theorem glue_rel {mu mu1 : Mu} {hc hp h1 : Hp} {w w1 : World} (hh : HRel mu hc w) (k1 : HRel mu1 h1 w1) (k2 : Ext (cut mu hp.n) hp w mu1 h1 w1)
    (non : ∀ b, hp.n ≤ b → b < h1.n → mu b = .none) (hn : h1.n ≤ hc.n) (same : ∀ b, b < h1.n → hc.get b = h1.get b) :
    HRel (glue mu1 mu h1.n) hc w1 ∧ Le mu (glue mu1 mu h1.n) ∧ Le mu1 (glue mu1 mu h1.n) := by
  have hpn := k2.n
  have le : Le mu (glue mu1 mu h1.n) := by
    intro b hb
    by_cases h : b < h1.n
    · rw [glue_lt h]
      by_cases h' : b < hp.n
      · rcases k2.old b h' with x | ⟨_, x⟩
        · left; rw [x, cut_lt h']
        grind
      grind
    · rw [glue_ge (by omega)]; exact .inl rfl
  have le1 : Le mu1 (glue mu1 mu h1.n) := by
    intro b hb
    left
    exact glue_lt (k1.lt b hb)
  refine ⟨⟨hh.sized, fun b c base top hm => ?_, fun b hm => ?_, ?_, fun b hm => ?_⟩, le, le1⟩
  · by_cases h : b < h1.n
    · rw [glue_lt h] at hm
      obtain ⟨x, o, g1, g2, g3⟩ := k1.blk b c base top hm
      exact ⟨x, o, by grind, g2, g3.mono le1⟩
    · rw [glue_ge (by omega)] at hm
      obtain ⟨x, o, g1, g2, g3⟩ := hh.blk b c base top hm
      refine ⟨x, o, g1, ?_, g3.mono le⟩
      rw [k2.frame c (hh.clt hm) (fun b' base' top' hb' => ?_)]
      · exact g2
      · by_cases h' : b' < hp.n
        · rw [cut_lt h'] at hb'
          have := hh.inj b b' c base top base' top' hm hb'
          omega
        grind[cut_ge]
  · by_cases h : b < h1.n
    · rw [glue_lt h] at hm; rw [same b h]; exact k1.dead b hm
    · rw [glue_ge (by omega)] at hm; exact hh.dead b hm
  · have one : ∀ b b' c base top base' top', b < h1.n → h1.n ≤ b' → mu1 b = .blk c base top → mu b' = .blk c base' top' → False := by
      intro b b' c base top base' top' h h' e1 e2
      by_cases hb : b < hp.n
      · rcases k2.old b hb with x | ⟨_, x⟩
        · rw [x, cut_lt hb] at e1
          have := hh.inj b b' c _ _ _ _ e1 e2
          omega
        grind
      · rcases k2.fresh b c base top (by omega) e1 with x | ⟨b0, base0, top0, y1, y2, _⟩
        · have := hh.clt e2; omega
        · rw [cut_lt y1] at y2
          have := hh.inj b0 b' c _ _ _ _ y2 e2
          omega
    intro b b' c base top base' top' e1 e2
    by_cases h : b < h1.n
    · rw [glue_lt h] at e1
      by_cases h' : b' < h1.n
      · rw [glue_lt h'] at e2; exact k1.inj b b' c _ _ _ _ e1 e2
      grind[glue_ge]
    · rw [glue_ge (by omega)] at e1
      by_cases h' : b' < h1.n
      · grind[glue_lt]
      · rw [glue_ge (by omega)] at e2; exact hh.inj b b' c _ _ _ _ e1 e2
  · by_cases h : b < h1.n
    · omega
    · rw [glue_ge (by omega)] at hm; exact hh.lt b hm

/-- The operations of a region, in another order. -/
structure SameAs (ops opsM : Array Oper) (σ : Nat → Nat) : Prop where
  op : ∀ p o, ops[p]? = some o → ∃ oM, opsM[σ p]? = some oM ∧ oM.op = o.op ∧ oM.dst = o.dst ∧ ((o.guard = none ∧ oM.guard = none) ∨ ∃ j want, o.guard = some (j, want) ∧ oM.guard = some (σ j, want))
  no : ∀ (p : Nat) (o : Oper) (j : Nat) (want : Bool), ops[p]? = some o → o.guard = some (j, want) → ops[j]? = none → opsM[σ j]? = none
theorem guard_relM {mu : Mu} {ops opsM : Array Oper} {σ : Nat → Nat} (hσ : SameAs ops opsM σ) {t : Tr Value} {tmps : Array Value} {o oM : Oper} {b : Bool} {p : Nat} (hop : ops[p]? = some o) (hgM : (o.guard = none ∧ oM.guard = none) ∨ ∃ j want, o.guard = some (j, want) ∧ oM.guard = some (σ j, want))
    (hr : ∀ j want o' d, o.guard = some (j, want) → ops[j]? = some o' → o'.dst = some d → ∀ v, t.get d = some v → ∃ v', tmps[d]? = some v' ∧ VRel mu v v')
    (hg : guardOk ops.toList t o = some b) : Region.wanted oM (yielded opsM tmps) = b := by
  unfold guardOk at hg
  unfold Region.wanted
  rcases hgM with ⟨g1, g2⟩ | ⟨j, want, g1, g2⟩
  · grind
  · rw [g1] at hg
    rw [g2]
    simp only [] at hg ⊢
    unfold yielded
    cases hj : ops[j]? with
    | none => rw [Array.getElem?_toList, hj] at hg; cases hg; rw [hσ.no p o j want hop g1 hj]; rfl
    | some o' =>
      obtain ⟨oj, k1, _, k3, _⟩ := hσ.op j o' hj
      rw [Array.getElem?_toList, hj] at hg
      rw [k1]
      simp only [Option.bind_some] at hg ⊢
      cases hd : o'.dst with
      | none => grind
      | some d =>
        rw [hd] at hg
        rw [k3, hd]
        simp only [Option.bind_some] at hg ⊢
        split at hg
        next b' hb =>
          obtain ⟨v', h1, h2⟩ := hr j want o' d g1 hj hd _ hb
          cases h2
          rw [h1]
          cases hg
          grind
        next x hb =>
          obtain ⟨v', h1, h2⟩ := hr j want o' d g1 hj hd _ hb
          rw [h1]
          cases hg
          cases h2
          rfl
        next => cases hg
theorem stepD_op {E : Env} {R : Rec} {ρ : Operand → Value} {b : Bool} {o oM : Oper} {h : Hp} (e : oM.op = o.op) : stepD E R ρ b oM h = stepD E R ρ b o h := by
  unfold stepD; rw [e]
/-- A new variable's block, which the abstract heap has already. -/
theorem alloc_at {mu : Mu} {h : Hp} {w w' : World} (hh : HRel mu h w) {b : Nat} (hn : mu b = .none) (hb : b < h.n) {x : Blk} {top : Nat} {o : Obj} (hget : h.get b = some x) (hw : WNew w w' o) (hbr : BRel mu x 0 top o) :
    HRel (upd mu b (.blk w.heap.size 0 top)) h w' ∧ Le mu (upd mu b (.blk w.heap.size 0 top)) := by
  have hg : ∀ j, w'.heap[j]? = if j = w.heap.size then some o else w.heap[j]? := by
    intro j; rw [hw.heap, Array.getElem?_push]
  have hle : Le mu (upd mu b (.blk w.heap.size 0 top)) := by
    intro b' hb'; grind[upd_other]
  refine ⟨⟨hh.sized, ?_, ?_, ?_, ?_⟩, hle⟩
  · intro b' c base' top' hm
    by_cases hbn : b' = b
    · subst hbn
      rw [upd_same] at hm
      cases hm
      exact ⟨x, o, hget, by rw [hg]; simp, hbr.mono hle⟩
    · rw [upd_other _ _ hbn] at hm
      obtain ⟨y, o', h1, h2, h3⟩ := hh.blk b' c base' top' hm
      have := hh.clt hm
      exact ⟨y, o', h1, by grind, h3.mono hle⟩
  · intro b' hm
    by_cases hbn : b' = b
    · grind[upd_same]
    · rw [upd_other _ _ hbn] at hm; exact hh.dead b' hm
  · intro b1 b2 c base1 top1 base2 top2 h1 h2
    by_cases hb1 : b1 = b
    · by_cases hb2 : b2 = b
      · rw [hb1, hb2]
      · subst hb1; rw [upd_same] at h1; rw [upd_other _ _ hb2] at h2
        cases h1; have := hh.clt h2; omega
    · rw [upd_other _ _ hb1] at h1
      by_cases hb2 : b2 = b
      · subst hb2; rw [upd_same] at h2; cases h2; have := hh.clt h1; omega
      · rw [upd_other _ _ hb2] at h2; exact hh.inj b1 b2 c _ _ _ _ h1 h2
  · intro b' hm
    by_cases hbn : b' = b
    · omega
    · rw [upd_other _ _ hbn] at hm; exact hh.lt b' hm
theorem WExt.alloc {mu0 mu : Mu} {h0 : Hp} {w0 w w' : World} (W : WExt mu0 h0 w0 mu w) (lt0 : ∀ b, mu0 b ≠ .none → b < h0.n) (clt0 : ∀ b c base top, mu0 b = .blk c base top → c < w0.heap.size) {b top : Nat} {o : Obj} (hb : h0.n ≤ b) (hw : WNew w w' o) : WExt mu0 h0 w0 (upd mu b (.blk w.heap.size 0 top)) w' := by
  have hg : ∀ j, j < w.heap.size → w'.heap[j]? = w.heap[j]? := by
    intro j hj; rw [hw.heap, Array.getElem?_push, if_neg (by omega)]
  refine ⟨fun b' hb' => ?_, fun b' c base top' hb' hm => ?_, fun c hc hn => ?_, fun b' c base top' t sz el hm hg' => ?_, ?_, hw.os.trans W.os, hw.tape.trans W.tape, hw.output.trans W.output⟩
  · rw [upd_other _ _ (by omega)]; exact W.old b' hb'
  · by_cases e : b' = b
    · subst e; rw [upd_same] at hm; cases hm; exact .inl W.wsize
    · rw [upd_other _ _ e] at hm
      rcases W.fresh b' c base top' hb' hm with x | ⟨b0, base0, top0, x, y, z⟩
      · exact .inl x
      grind[upd_other]
  · rw [hg c (Nat.lt_of_lt_of_le hc W.wsize)]; exact W.frame c hc hn
  · obtain ⟨x, y⟩ := W.ro b' c base top' t sz el hm hg'
    grind[upd_other,Nat.lt_or_ge]
  · rw [hw.heap]; simp; have := W.wsize; omega
include ok in
theorem alloc_exec {mu : Mu} {h : Hp} {w : World} {b : Nat} {e : TypeId} {z : List Value} (hz : E.zero e = some z) (hh : HRel mu h w) (hn : mu b = .none) (hb : b < h.n) (hget : h.get b = some (.cells (Tr.ofList z) z.length e 1)) (ρ' : Operand → Value) {o : Oper} (ho : o.op = .alloc e) :
    ∃ w' top ob, (execOp ρ' o).run P w = .ok (.value (.pointer (some ⟨w.heap.size, 0, none⟩))) w' ∧ WNew w w' ob ∧ HRel (upd mu b (.blk w.heap.size 0 top)) h w' ∧ Le mu (upd mu b (.blk w.heap.size 0 top)) := by
  obtain ⟨zv, z1, z2, z3, z4⟩ := zero_run ok hz w
  have hr : VL mu z zv.cells.toList := by
    grind[LR.refl,VRel.const,List.all_eq_true]
  have hbr : BRel mu (.cells (Tr.ofList z) z.length e 1) 0 zv.cells.size (.cells zv.cells e) := by
    refine ⟨zv.cells, e, (0, 0), rfl, rfl, ?_, Tr.sized_ofList z, ?_, ?_⟩
    · grind
    · intro i v hv
      rw [Tr.get_ofList] at hv
      obtain ⟨v', h1, h2⟩ := hr.get hv
      grind
    omega
  obtain ⟨a1, a2⟩ := alloc_at hh hn hb hget (alloc_new w (.cells zv.cells e)) hbr
  refine ⟨_, _, _, ?_, alloc_new w (.cells zv.cells e), a1, a2⟩
  simp_all[guard,execOp,Instr.alloc,newVar,newRow]
include ok hc hcode D in
theorem inv_step (turn : ∀ j o, j < ops.size → ops[j]? = some o → Turn ops E X q H T j o) (shd : ∀ i, i ≤ ops.size → Shadow nr mu0 w0 L H i) (lt0 : ∀ b, mu0 b ≠ .none → b < (H 0).n) (clt0 : ∀ b c base top, mu0 b = .blk c base top → c < w0.heap.size)
    {opsM : Array Oper} {σ : Nat → Nat} (hσ : SameAs ops opsM σ)
    {S : Nat → Bool} {mu : Mu} {w : World} {tmps : Array Value} (inv : Inv E ops q L H X nr mu0 w0 S mu w tmps) (hd : Down ops S) {p : Nat} {o : Oper} (ho : ops[p]? = some o) (hr : Ready o S) (hp : S p = false)
    {F : FC} {dfs : List Deferred} {k : List Item} {cs : List Frame} {rest : List Nat} :
    ∃ mu' w' tmps', Inv E ops q L H X nr mu0 w0 (addS S p) mu' w' tmps' ∧
      Steps P (lone (F.mk' tmps dfs (.inRegion opsM (σ p :: rest) :: k)) cs w) (lone (F.mk' tmps' dfs (.inRegion opsM rest :: k)) cs w') := by
  obtain ⟨oM, hoM, e1, e2, e3⟩ := hσ.op p o ho
  have hpn := (Array.getElem?_eq_some_iff.1 ho).1
  obtain ⟨muT, wT, tmpsT, t1, t2, t3, t4⟩ := shd p (by omega)
  obtain ⟨c, hC, hh⟩ := inv.c
  have named : ∀ t ∈ namesOf ops.toList o, ∀ v, (L p).regs.get t = some v → ∃ v', tmps[t]? = some v' ∧ VRel mu v v' :=
    fun t ht v hv => inv.regs p (by omega) t v (names_cond D hd ho hr hp ht) hv
  have hguard : ∀ {b : Bool}, guardOk ops.toList (L p).regs o = some b → Region.wanted oM (yielded opsM tmps) = b := by
    intro b hg
    refine guard_relM (mu := mu) hσ ho e3 (fun j want o' d hgu hj hdj v hv => named d ?_ v hv) hg
    grind[namesOf]
  have hρ : ∀ x, VRel mu ((L p).evD (tmpsOf o.op.operands.toList) x) (evalC tmps x) :=
    fun x => evD_rel t3.sized inv.size _ (fun t ht v hv => named t (by
      unfold namesOf
      have : Operand.tmp t ∈ o.op.operands.toList := (mem_tmpsOf t _).1 ht
      grind) v hv) inv.glob x
  have hρT : ∀ x, VRel muT ((L p).evD (tmpsOf o.op.operands.toList) x) (evalC tmpsT x) :=
    fun x => evD_rel t3.sized t3.size _ (fun t ht v hv => t3.get t v hv) t2 x
  have sized : ∀ j, j ≤ ops.size → (H j).t.Sized (H j).n := fun j hj => by obtain ⟨_, _, _, g, _⟩ := shd j hj; exact g.sized
  have tp := turn p o hpn ho
  have hs := D.step p o ho
  have hro : ∀ j, j ≤ ops.size → ∀ b c base top t sz el, mu0 b = .blk c base top → (H 0).get b = some (.cells t sz el 0) → (H j).get b = some (.cells t sz el 0) := by
    intro j hj b c base top t sz el hm hg
    obtain ⟨_, _, _, _, _, _, e⟩ := shd j hj
    exact ((e.ro b c base top t sz el hm hg).2.1).trans hg
  have cW : ∀ {i : Nat} {oi : Oper}, ops[i]? = some oi → c = i → isW E X q oi i := by
    intro i oi hoi hci
    subst hci
    rcases hC.2.1 with e | ⟨oc, hoc, hwc, _⟩
    · grind
    grind
  generalize hL : L (p + 1) = L1 at hs
  generalize hH : H (p + 1) = H1 at hs
  generalize hTp : T p = T1 at hs
  generalize hXp : X p = X1 at hs
  cases hs with
  | skip hg =>
    have hpc : p ≠ c := by
      intro e
      have := (cW ho e.symm).1
      grind
    have hst := st_op_skip (P := P) (F := F) (tmps := tmps) (dfs := dfs) (k := k) (cs := cs) (w := w) (ops := opsM) (i := σ p) (rest := rest) (by grind)
    rw [hoM, show (some oM).bind (·.dst) = oM.dst from rfl, e2] at hst
    refine ⟨mu, w, _, ⟨⟨c, atC_add hC hpc, hh⟩, inv.glob, fun p' hp' hs' b h1 h2 => ?_, by rw [putC_size]; exact inv.size, ?_, inv.ext, ?_⟩, .one hst⟩
    · refine inv.non p' hp' ?_ b h1 h2
      grind[addS_other]
    · exact regs_step D hd ho hr hp (Le.refl mu) inv.size t3.sized (v := .tuple #[]) (v' := undef) (.tuple rfl (by grind)) hL inv.regs
    · intro p' hp' hs' b h1 h2
      by_cases e : p' = p
      · grind
      · rw [addS_other S e] at hs'; exact inv.cov p' hp' hs' b h1 h2
  | exec hg hst =>
    rename_i v
    have hwant := hguard hg
    cases hal : isAlloc o.op with
    | true =>
      obtain ⟨e, hop⟩ : ∃ e, o.op = .alloc e := by
        unfold isAlloc at hal
        grind
      have h4 := alloc_cls (E := E) hal
      have hb4 := D.four p o ho h4
      have hk : isQ E X q o p := ⟨hXp, by omega, hb4⟩
      rw [hush_quiet (by omega) hb4] at hst
      obtain ⟨z, hz, hv, hH1⟩ : ∃ z, E.zero e = some z ∧ v = ptrTo (H p).n ∧ H1 = (H p).new (.cells (Tr.ofList z) z.length e 1) := by
        unfold stepD at hst
        simp only [cond_true, hop, aop] at hst
        cases hz : E.zero e with
        | none => rw [hz] at hst; cases hst
        | some z =>
          rw [hz] at hst
          simp only [wrapV, opVal, newCells] at hst
          rw [show Nat.ble (H p).n (({ H p with lo := (H p).n } : Hp).new (.cells (Tr.ofList z) z.length e 1)).lo = true from Nat.ble_eq_true_of_le (Nat.le_refl _)] at hst
          cases hst
          exact ⟨z, rfl, rfl, rfl⟩
      have hT : T p = some (H p).n := by rw [hTp]; unfold touchA; rw [hal]; rfl
      have hget1 : (H (p + 1)).get (H p).n = some (.cells (Tr.ofList z) z.length e 1) := by rw [hH, hH1, Hp.get_new _ _ (sized p (by omega)), if_pos rfl]
      have hn1 : (H (p + 1)).n = (H p).n + 1 := by rw [hH, hH1]; rfl
      have hpc : p < c := by
        rcases Nat.lt_trichotomy p c with h | h | h
        · exact h
        · exfalso
          have hw := cW ho h.symm
          rcases hw.2 with x | ⟨_, x⟩
          · omega
          omega
        · exfalso
          rcases hC.2.1 with e | ⟨oc, hoc, hwc, hsc⟩
          · omega
          · obtain ⟨m, hm⟩ := mask D ho
            have := ready_bit D hd ho hm hr (cmp D ho hm h hoc ⟨hwc, .inr hk⟩)
            grind
      have hnp1 : (H (p + 1)).n ≤ (H c).n := n_mono turn (by omega) hC.1
      have hgetc : (H c).get (H p).n = some (.cells (Tr.ofList z) z.length e 1) := by
        have := walk_eq (fun j => (H j).get (H p).n) (a := p + 1) (c - (p + 1)) (fun j h1 h2 => by
          have hj : j < ops.size := by have := hC.1; omega
          have hoj : ops[j]? = some ops[j] := Array.getElem?_eq_getElem hj
          have tj := turn j _ hj hoj
          show (H (j + 1)).get (H p).n = (H j).get (H p).n
          rcases kinds D hoj with x | x | x
          · rw [tj.still x]
          · refine tj.quiet x _ ?_
            have := n_mono turn h1 (by omega)
            omega
          · obtain ⟨m, hm⟩ := mask D hoj
            have hsj := hC.2.2 j _ (by omega) hoj x
            have hb : m.testBit p = false := by
              grind[down_bit]
            obtain ⟨_, hu⟩ := D.owe j _ m p o hoj hm (by omega) ho hb
            have hw2 := x.2
            have h5 := cls_le (E := E) ops[j].op
            rcases hu with h | h | ⟨_, h⟩ | ⟨_, h, _⟩ | ⟨_, h, _⟩ | ⟨_, h, _⟩ | ⟨_, h, _⟩ | ⟨a, b, c', d⟩ | ⟨_, h, _⟩ | ⟨_, h, _⟩ | ⟨_, _, hrun, _, hm'⟩ | ⟨_, h, _⟩
            · omega
            · omega
            · omega
            · omega
            · omega
            · omega
            · omega
            · grind
            · omega
            · omega
            · exact D.leave (.inl hm') ho hoj (isRun_cls (E := E) (by omega)) hrun x.1 (hush_w x) hT
            · omega)
        grind
      have hbn := inv.non p hpn hp (H p).n (Nat.le_refl _) (by omega)
      obtain ⟨w', top, ob, r1, r2, r3, r4⟩ := alloc_exec (P := P) ok hz hh hbn (by omega) hgetc (evalC tmps) (o := oM) (e1.trans hop)
      have hst1 := st_value (P := P) (F := F) (dfs := dfs) (k := k) (cs := cs) (rest := rest) hoM hwant (.inr fun cc hcc => by grind) r1
      rw [e2] at hst1
      refine ⟨upd mu (H p).n (.blk w.heap.size 0 top), w', _, ⟨⟨c, atC_add hC (by omega), r3⟩, inv.glob.mono r4, fun p' hp' hs' b h1 h2 => ?_, by rw [putC_size]; exact inv.size, ?_, ?_, ?_⟩, .one hst1⟩
      · have hne : p' ≠ p := by grind[addS_same]
        rw [addS_other S hne] at hs'
        rw [upd_other _ _ (by
          rcases Nat.lt_or_ge p p' with x | x
          · have := n_mono turn (show p + 1 ≤ p' from x) (by omega); omega
          · have := n_mono turn (show p' + 1 ≤ p by omega) (by omega); omega)]
        exact inv.non p' hp' hs' b h1 h2
      · refine regs_step D hd ho hr hp r4 inv.size t3.sized (v := v) (v' := .pointer (some ⟨w.heap.size, 0, none⟩)) ?_ hL inv.regs
        rw [hv]
        exact .ptr (new_ptr mu (H p).n w.heap.size 0 _)
      · exact inv.ext.alloc lt0 clt0 (n_mono turn (Nat.zero_le p) (by omega)) r2
      · intro p' hp' hs' b h1 h2 hb0
        by_cases e : p' = p
        · grind[upd_same]
        · rw [addS_other S e] at hs'
          have hmb := inv.cov p' hp' hs' b h1 h2
          rcases r4 b hmb with x | x
          · grind
          grind
    | false =>
    rcases kinds D ho with hk | hk | hk
    · -- a read
      have hcls : cls E o.op ≤ 1 := by
        rcases hk with x | x
        · grind
        · exact x
      have hpc : p ≠ c := by
        intro e
        rcases (cW ho e.symm).2 with x | ⟨x, _⟩ <;> omega
      obtain ⟨f, f1, f2, f3⟩ := shape_op (E := E) (op := o.op) (ρ := (L p).evD (tmpsOf o.op.operands.toList)) (by omega)
      rw [hush_read hcls] at hst
      have hfp : f (H p) = some v := by
        simp only [stepD, cond_false] at hst
        rw [f1 (H p)] at hst
        cases hf : f (H p) with
        | none => rw [hf] at hst; cases hst
        | some u => rw [hf] at hst; cases hst; rfl
      have hfc : f (H c) = some v := by
        rw [← hfp]
        exact read_at D turn sized hd hC ho hr hp hcls (hTp.trans (touchA_cls (E := E) (by omega) _ _)) (fun b hb => t1.lt b (touch_in hρT hb)) (fun b hb => hh.lt b (touch_in hρ hb)) f1 f2 f3
      have hstc : stepD E R ((L p).evD (tmpsOf o.op.operands.toList)) false o (H c) = some (v, H c) := by
        simp only [stepD, cond_false]
        rw [f1 (H c), hfc]; rfl
      obtain ⟨mu1, w1, v', k1, k2, k3, _, k4⟩ := stepD_sim ok hc hcode hh inv.glob hρ (F := F) (ops := opsM) (i := σ p) (dfs := dfs) (k := k) (cs := cs) (rest := rest) hoM hwant ((stepD_op e1).trans hstc)
      rw [e2] at k4
      have le := k2.le hh
      have hnone : ∀ b, mu b = .none → mu1 b = .none := by
        intro b hb
        by_cases hbc : b < (H c).n
        · rcases k2.old b hbc with x | ⟨x, _⟩
          · rw [x]; exact hb
          grind
        · exact k1.none_ge (by omega)
      refine ⟨mu1, w1, _, ⟨⟨c, atC_add hC hpc, k1⟩, inv.glob.mono le, fun p' hp' hs' b h1 h2 => ?_, by rw [putC_size]; exact inv.size, ?_, ?_, ?_⟩, k4⟩
      · refine hnone b (inv.non p' hp' ?_ b h1 h2)
        grind[addS_other]
      · exact regs_step D hd ho hr hp le inv.size t3.sized k3 hL inv.regs
      · refine inv.ext.step lt0 (n_mono turn (Nat.zero_le c) hC.1) (by rw [cut_self hh.lt]; exact k2) (hro c hC.1) (fun _ _ => rfl) (fun b hb => ?_)
        rw [k1.none_ge hb, hh.none_ge hb]
      · intro p' hp' hs' b h1 h2 hb0
        by_cases e : p' = p
        · subst e; rw [tp.still hk] at h2; omega
        · rw [addS_other S e] at hs'
          have hmb := inv.cov p' hp' hs' b h1 h2
          rcases le b hmb with x | x
          · grind
          grind
    · -- a quiet one: it runs at p, below c
      have hpc : p < c := by
        rcases Nat.lt_trichotomy p c with h | h | h
        · exact h
        · exfalso
          have hw := cW ho h.symm
          rcases hw.2 with x | ⟨_, x⟩
          · have := hk.2.1; omega
          · rw [hk.2.2] at x; cases x
        · exfalso
          rcases hC.2.1 with e | ⟨oc, hoc, hwc, hsc⟩
          · omega
          · obtain ⟨m, hm⟩ := mask D ho
            have := ready_bit D hd ho hm hr (cmp D ho hm h hoc ⟨hwc, .inr hk⟩)
            grind
      have hnoW : ∀ j oj, p ≤ j → j < c → ops[j]? = some oj → isR E X oj j ∨ isQ E X q oj j ∨ ∀ b, b < (H (p + 1)).n → (H (j + 1)).get b = (H j).get b := by
        intro j oj h1 h2 hoj
        rcases kinds D hoj with x | x | x
        · exact .inl x
        · grind
        · refine .inr (.inr ?_)
          by_cases e : j = p
          · subst e
            rw [ho] at hoj; cases hoj
            exfalso
            rcases x.2 with y | ⟨_, y⟩
            · have := hk.2.1; omega
            · rw [hk.2.2] at y; cases y
          · obtain ⟨m, hm⟩ := mask D hoj
            rcases cmpN D hoj hm (by omega) ho (.inr ⟨hk, x, hal⟩) with y | ⟨_, y2, y3⟩
            · have := down_bit D hd j oj m p hoj hm (hC.2.2 j oj h2 hoj x) y
              grind
            grind[wr_new]
      have hsame : ∀ b, b < (H p).n → (H c).get b = (H p).get b := fun b hb => stand turn (by omega) hC.1 (fun j oj h1 h2 hoj => (hnoW j oj h1 h2 hoj).imp id (.imp id fun f b hb => f b (by have := tp.n; omega))) hb
      have hsame1 : ∀ b, b < (H (p + 1)).n → (H c).get b = (H (p + 1)).get b := fun b hb => stand turn (by omega) hC.1 (fun j oj h1 h2 => hnoW j oj (by omega) h2) hb
      have hnp : (H p).n ≤ (H c).n := n_mono turn (by omega) hC.1
      have hnp1 : (H (p + 1)).n ≤ (H c).n := n_mono turn (by omega) hC.1
      have hcut : HRel (cut mu (H p).n) (H p) w := by
        refine ⟨sized p (by omega), fun b c0 base top hm => ?_, fun b hm => ?_, fun b b' c0 base top base' top' h1 h2 => ?_, fun b hm => ?_⟩
        · by_cases hb : b < (H p).n
          · rw [cut_lt hb] at hm
            obtain ⟨x, ob, g1, g2, g3⟩ := hh.blk b c0 base top hm
            refine ⟨x, ob, by grind, g2, ?_⟩
            have hTn : muT b ≠ .none := by
              by_cases hb0 : b < (H 0).n
              · have hm0 : mu0 b ≠ .none := by
                  rcases inv.ext.old b hb0 with y | ⟨y, _⟩
                  · grind
                  · exact y
                rcases t4.old b hb0 with y | ⟨_, y⟩
                · grind
                · rw [y]; simp
              · exact t4.cover b (by omega) hb
            cases hmT : muT b with
            | none => grind
            | dead =>
              have := t1.dead b hmT
              rw [← hsame b hb, g1] at this
              cases this
              exact g3.elim
            | blk cT baseT topT =>
              obtain ⟨xT, oT, j1, j2, j3⟩ := t1.blk b cT baseT topT hmT
              rw [← hsame b hb, g1] at j1
              cases j1
              exact BRel.cut (fun b' hb' => t1.lt b' hb') g3 j3
          grind[cut_ge]
        · by_cases hb : b < (H p).n
          · rw [cut_lt hb] at hm; rw [← hsame b hb]; exact hh.dead b hm
          grind[cut_ge]
        · exact hh.inj b b' c0 base top base' top' (by
            grind[cut_lt,cut_ge]) (by
            grind[cut_lt,cut_ge])
        · by_cases hb : b < (H p).n
          · exact hb
          · rw [cut_ge (by omega)] at hm; grind
      have hρc : ∀ x, VRel (cut mu (H p).n) ((L p).evD (tmpsOf o.op.operands.toList) x) (evalC tmps x) := fun x => VRel.cut (fun b' hb' => t1.lt b' hb') (hρT x) (hρ x)
      have hgc : Glob (cut mu (H p).n) := fun g hg => (inv.glob g hg).cut (t1.lt _ (t2 g hg).in)
      have hst' := hst
      rw [hush_quiet hk.2.1 hk.2.2] at hst'
      obtain ⟨mu1, w1, v', k1, k2, k3, _, k4⟩ := stepD_sim ok hc hcode hcut hgc hρc (F := F) (ops := opsM) (i := σ p) (dfs := dfs) (k := k) (cs := cs) (rest := rest) hoM hwant ((stepD_op e1).trans hst')
      rw [e2] at k4
      rw [← hH] at k1 k2
      obtain ⟨gh, le, le1⟩ := glue_rel hh k1 k2 (fun b h1 h2 => inv.non p hpn hp b h1 h2) hnp1 hsame1
      refine ⟨glue mu1 mu (H (p + 1)).n, w1, _, ⟨⟨c, atC_add hC (by omega), gh⟩, inv.glob.mono le, fun p' hp' hs' b h1 h2 => ?_, by rw [putC_size]; exact inv.size, ?_, ?_, ?_⟩, k4⟩
      · have hne : p' ≠ p := by grind[addS_same]
        rw [addS_other S hne] at hs'
        have hmb := inv.non p' hp' hs' b h1 h2
        rcases Nat.lt_or_ge p p' with x | x
        · rw [glue_ge (Nat.le_trans (n_mono turn (show p + 1 ≤ p' from x) (by omega)) h1)]; exact hmb
        · have hbp : b < (H p).n := Nat.lt_of_lt_of_le h2 (n_mono turn (show p' + 1 ≤ p by omega) (by omega))
          rw [glue_lt (Nat.lt_of_lt_of_le hbp tp.n)]
          rcases k2.old b hbp with y | ⟨y, _⟩
          · rw [y, cut_lt hbp]; exact hmb
          grind[cut_lt,absurd]
      · exact regs_step D hd ho hr hp le inv.size t3.sized (k3.mono le1) hL inv.regs
      · exact inv.ext.step lt0 (n_mono turn (Nat.zero_le p) (by omega)) k2 (hro p (by omega)) (fun b hb => glue_lt hb) (fun b hb => glue_ge hb)
      · intro p' hp' hs' b h1 h2 hb0
        by_cases e : p' = p
        · subst e; rw [glue_lt h2] at hb0; exact k2.cover b h1 h2 hb0
        · rw [addS_other S e] at hs'
          have hmb := inv.cov p' hp' hs' b h1 h2
          rcases le b hmb with x | x
          · grind
          grind
    · -- a writer: it is the one at c
      have hpc : p = c := by
        rcases Nat.lt_trichotomy p c with h | h | h
        · have := hC.2.2 p o h ho hk; grind
        · exact h
        · rcases hC.2.1 with e | ⟨oc, hoc, hwc, hsc⟩
          · omega
          · obtain ⟨m, hm⟩ := mask D ho
            have := ready_bit D hd ho hm hr (cmp D ho hm h hoc ⟨hwc, .inl hk⟩)
            grind
      subst hpc
      rw [hush_w hk] at hst
      obtain ⟨mu1, w1, v', k1, k2, k3, _, k4⟩ := stepD_sim ok hc hcode hh inv.glob hρ (F := F) (ops := opsM) (i := σ p) (dfs := dfs) (k := k) (cs := cs) (rest := rest) hoM hwant ((stepD_op e1).trans hst)
      rw [e2] at k4
      have le := k2.le hh
      rw [← hH] at k1 k2
      obtain ⟨c', d1, d2, d3, d4⟩ := next_W (E := E) (ops := ops) (q := q) (X := X) (ops.size - (p + 1)) (p + 1) (by omega)
      have hmove : HRel mu1 (H c') w1 := by
        refine hrel_stand k1 (sized c' d2) (n_mono turn d1 d2) (fun b hb => stand turn d1 d2 (fun j oj h1 h2 hoj => ?_) hb)
        grind[kinds,absurd]
      refine ⟨mu1, w1, _, ⟨⟨c', ⟨d2, ?_, ?_⟩, hmove⟩, inv.glob.mono le, fun p' hp' hs' b h1 h2 => ?_, by rw [putC_size]; exact inv.size, ?_, ?_, ?_⟩, k4⟩
      · rcases d3 with e | ⟨o', ho', hw'⟩
        · exact .inl e
        · refine .inr ⟨o', ho', hw', ?_⟩
          rw [addS_other S (by omega)]
          exact after_c D hd hC (by omega) ho' (.inl hw') (fun _ => by omega)
      · intro i oi hi hoi hwi
        by_cases hip : i = p
        · subst hip; exact addS_same S i
        · rw [addS_other S hip]
          rcases Nat.lt_or_ge i p with x | x
          · exact hC.2.2 i oi x hoi hwi
          grind
      · have hne : p' ≠ p := by grind[addS_same]
        rw [addS_other S hne] at hs'
        rcases Nat.lt_or_ge p p' with x | x
        · exact k1.none_ge (Nat.le_trans (n_mono turn (show p + 1 ≤ p' from x) (by omega)) h1)
        · have hbp : b < (H p).n := Nat.lt_of_lt_of_le h2 (n_mono turn (show p' + 1 ≤ p by omega) (by omega))
          have hmb := inv.non p' hp' hs' b h1 h2
          rcases k2.old b hbp with y | ⟨y, _⟩
          · grind
          grind
      · exact regs_step D hd ho hr hp le inv.size t3.sized k3 hL inv.regs
      · refine inv.ext.step lt0 (n_mono turn (Nat.zero_le p) hC.1) (by rw [cut_self hh.lt]; exact k2) (hro p hC.1) (fun _ _ => rfl) (fun b hb => ?_)
        rw [k1.none_ge hb, hh.none_ge (Nat.le_trans tp.n hb)]
      · intro p' hp' hs' b h1 h2 hb0
        by_cases e : p' = p
        · subst e; exact k2.cover b h1 h2 hb0
        · rw [addS_other S e] at hs'
          have hmb := inv.cov p' hp' hs' b h1 h2
          rcases le b hmb with x | x
          · grind
          grind
end
end Go.Ab

/- New variables first: the same operations in another order. -/
namespace Go.Ab
theorem binds_ground {e e' : Edge} (h : e.ground = e'.ground) : binds e = binds e' := by
  unfold binds Region.binds; rw [h]
/-- The operations of a region in another order: σ leads to the text's, τ back. -/
structure Ord (ops opsM : Array Oper) (σ τ : Nat → Nat) : Prop where
  size : ops.size = opsM.size
  lt : ∀ p, p < ops.size ↔ σ p < ops.size
  st : ∀ i, σ (τ i) = i
  ts : ∀ p, τ (σ p) = p
  op : ∀ p o, ops[p]? = some o → ∃ oM, opsM[σ p]? = some oM ∧ oM.op = o.op ∧ oM.dst = o.dst ∧ ((o.guard = none ∧ oM.guard = none) ∨ ∃ j want, o.guard = some (j, want) ∧ oM.guard = some (σ j, want)) ∧
    (∀ e ∈ o.after.toList, ∃ eM ∈ oM.after.toList, e.ground = eM.ground ∧ (eM.on < ops.size → e.on = τ eM.on) ∧ (ops.size ≤ eM.on → ops.size ≤ e.on)) ∧
    ∀ eM ∈ oM.after.toList, ∃ e ∈ o.after.toList, e.ground = eM.ground ∧ (eM.on < ops.size → e.on = τ eM.on) ∧ (ops.size ≤ eM.on → ops.size ≤ e.on)
theorem Ord.same {ops opsM : Array Oper} {σ τ : Nat → Nat} (o : Ord ops opsM σ τ) : SameAs ops opsM σ := by
  refine ⟨fun p x hx => ?_, fun _ _ p _ _ _ hp => ?_⟩
  · obtain ⟨oM, a, b, c, d, _⟩ := o.op p x hx; grind
  · have h1 : ¬ p < ops.size := by grind
    refine Array.getElem?_eq_none ?_
    rw [← o.size]
    have := mt (o.lt p).2 h1
    omega
/-- The same operations, the first ones of a longer region. -/
theorem Ord.part {ops opsM opsF : Array Oper} {σ τ : Nat → Nat} (o : Ord ops opsM σ τ) (hF : ∀ (i : Nat), i < opsM.size → opsF[i]? = opsM[i]?) (hg : ∀ x ∈ opsM.toList, guardIn opsM.size x = true) : SameAs ops opsF σ := by
  refine ⟨fun p x hx => ?_, fun p x j want hx hgx hj => ?_⟩
  · obtain ⟨oM, a, b, c, d, _⟩ := o.op p x hx
    grind
  · exfalso
    obtain ⟨oM, a, _, _, d, _⟩ := o.op p x hx
    rcases d with ⟨d, _⟩ | ⟨j', w', d, e⟩
    · grind
    · rw [hgx] at d; cases d
      have hm : oM ∈ opsM.toList := by grind
      have := hg oM hm
      unfold guardIn at this
      rw [e] at this
      have h1 : σ j < ops.size := by rw [o.size]; simp_all
      have h2 := (o.lt j).2 h1
      grind
theorem Ord.id (ops : Array Oper) : Ord ops ops (fun i => i) (fun i => i) := by
  refine ⟨rfl, fun _ => Iff.rfl, fun _ => rfl, fun _ => rfl, fun p o ho => ⟨o, ho, rfl, rfl, ?_, fun e he => ⟨e, he, rfl, fun _ => rfl, fun h => h⟩, fun e he => ⟨e, he, rfl, fun _ => rfl, fun h => h⟩⟩⟩
  cases hg : o.guard with
  | none => grind
  | some q => grind
theorem posOf_lt {i : Nat} : ∀ {l : List Nat}, i ∈ l → posOf i l < l.length ∧ l[posOf i l]? = some i
  | [], h => by cases h
  | x :: l, h => by
    unfold posOf
    cases hb : Nat.beq i x with
    | true =>
      simp_all
    | false =>
      have hne : i ≠ x := by grind[Nat.beq_refl]
      rcases List.mem_cons.1 h with e | h
      · omega
      · obtain ⟨a, b⟩ := posOf_lt h
        grind
theorem posOf_out {i : Nat} : ∀ {l : List Nat}, i ∉ l → posOf i l = l.length
  | [], _ => rfl
  | x :: l, h => by
    unfold posOf
    have hb : Nat.beq i x = false := by
      grind[Nat.beq,absurd,Nat.eq_of_beq_eq_true]
    simp_all[cond_false,List.length_cons,posOf_out,List.mem_cons_of_mem]
theorem ordL_mem (ops : List Oper) (i : Nat) : i ∈ ordL ops ↔ i < ops.length := by
  grind[ordL,freeAt,lateAt]
theorem ordL_nodup (ops : List Oper) : (ordL ops).Nodup := by
  unfold ordL
  rw [List.nodup_append, List.nodup_append]
  refine ⟨List.nodup_range.filter _, ⟨List.nodup_range.filter _, List.nodup_range.filter _, fun a ha b hb e => ?_⟩, fun a ha b hb e => ?_⟩
  · grind
  grind
theorem ordL_len (ops : List Oper) : (ordL ops).length = ops.length := by
  unfold ordL
  rw [List.length_append, List.length_append]
  have key : ∀ (l : List Nat) (f g : Nat → Bool), (l.filter f).length + ((l.filter fun i => !f i && !g i).length + (l.filter fun i => !f i && g i).length) = l.length := by
    intro l f g
    induction l with
    | nil => rfl
    | cons x l ih =>
      grind
  simp_all
theorem pickL_get (ops : List Oper) (ord : List Nat) : ∀ (l : List Nat), (∀ i ∈ l, i < ops.length) → ∀ (p : Nat), (pickL ops ord l)[p]? = (l[p]?).bind fun (i : Nat) => (ops[i]?).map (reix ord)
  | [], _, p => by simp [pickL]
  | i :: l, h, p => by
    have hi : i < ops.length := h i List.mem_cons_self
    unfold pickL
    rw [List.getElem?_eq_getElem hi]
    simp only []
    cases p with
    | zero => simp [hi]
    | succ p =>
      simp only [List.getElem?_cons_succ]
      exact pickL_get ops ord l (fun j hj => h j (List.mem_cons_of_mem _ hj)) p
theorem posOf_at {ord : List Nat} (hnd : ord.Nodup) {p i : Nat} (hp : ord[p]? = some i) : posOf i ord = p := by
  have hi : i ∈ ord := List.mem_of_getElem? hp
  obtain ⟨a, b⟩ := posOf_lt hi
  grind[List.getElem?_eq_some_iff,Nat.lt_trichotomy,posOf,absurd,List.pairwise_iff_getElem]
theorem pick_ord (ops : Array Oper) (ord : List Nat) (hmem : ∀ i, i ∈ ord ↔ i < ops.toList.length) (hnd : ord.Nodup) (hlen : ord.length = ops.toList.length) (hgu : ops.toList.all (guardIn ops.toList.length) = true) :
    Ord (pickL ops.toList ord ord).toArray ops (fun p => (ord[p]?).getD p) (fun i => if i < ops.size then posOf i ord else i) := by
  have hn : ops.toList.length = ops.size := by simp
  rw [hn] at hlen hmem
  have hget := pickL_get ops.toList ord ord (fun i hi => by grind)
  have hsz : (pickL ops.toList ord ord).length = ops.size := by
    have key : ∀ p, p < (pickL ops.toList ord ord).length ↔ p < ops.size := by
      intro p
      have h0 : p < (pickL ops.toList ord ord).length ↔ ((pickL ops.toList ord ord)[p]?).isSome = true := by simp
      grind
    have a := key (pickL ops.toList ord ord).length
    have b := key ops.size
    omega
  have hs : ∀ p, p < ops.size → ∃ i, ord[p]? = some i ∧ i < ops.size := fun p hp => ⟨ord[p]'(by omega), List.getElem?_eq_getElem _, (hmem _).1 (List.getElem_mem _)⟩
  have hts : ∀ p i, ord[p]? = some i → posOf i ord = p := fun p i hp => posOf_at hnd hp
  have hsize : (pickL ops.toList ord ord).toArray.size = ops.size := by simp [hsz]
  refine ⟨hsize, fun p => ?_, fun i => ?_, fun p => ?_, fun p o ho => ?_⟩
  · grind
  · by_cases h : i < ops.size
    · simp_all[if_pos,posOf_lt]
    grind
  · grind
  · have ho' : (pickL ops.toList ord ord)[p]? = some o := by simpa using ho
    rw [hget] at ho'
    obtain ⟨i, h1, h2⟩ := Option.bind_eq_some_iff.1 ho'
    obtain ⟨oM, h3, rfl⟩ := Option.map_eq_some_iff.1 h2
    have h3' : ops[i]? = some oM := by simpa using h3
    refine ⟨oM, by grind, rfl, rfl, ?_, ?_, ?_⟩
    · grind[List.all_eq_true,List.mem_of_getElem?,guardIn,reix,Nat.blt_eq,posOf,posOf_lt]
    · intro e he
      simp only [reix, Array.toList_map, List.mem_map] at he
      obtain ⟨eM, k1, rfl⟩ := he
      refine ⟨eM, k1, rfl, fun h => ?_, fun h => ?_⟩
      · grind
      simp_all[posOf,posOf_out,Nat.le_refl]
    · intro eM k1
      refine ⟨{ eM with on := posOf eM.on ord }, by simp only [reix, Array.toList_map, List.mem_map]; grind, rfl, fun h => ?_, fun h => ?_⟩
      · grind
      simp_all[posOf,posOf_out,Nat.le_refl]
theorem hoist_ord (ops : Array Oper) : ∃ (opsC : Array Oper) (σ τ : Nat → Nat), opsC.toList = hoist ops.toList ∧ Ord opsC ops σ τ := by
  unfold hoist
  cases hh : (ops.toList.any isFree || lateOn ops.toList) && ops.toList.all (guardIn ops.toList.length) with
  | false => exact ⟨ops, _, _, rfl, Ord.id ops⟩
  | true =>
    simp only [Bool.and_eq_true] at hh
    exact ⟨_, _, _, rfl, pick_ord ops _ (ordL_mem ops.toList) (ordL_nodup ops.toList) (ordL_len ops.toList) hh.2⟩
end Go.Ab

/- Drawn orders: every order. -/
namespace Go.Ab

/-- How many are not listed. -/
def lackN (S : Nat → Bool) : Nat → Nat
  | 0 => 0
  | n + 1 => lackN S n + (if S n = true then 0 else 1)
theorem lackN_zero {S : Nat → Bool} : ∀ {n : Nat}, lackN S n = 0 → ∀ i, i < n → S i = true
  | 0, _, i, hi => by omega
  | n + 1, h, i, hi => by
    simp only [lackN] at h
    by_cases hs : S n = true
    · rw [if_pos hs] at h
      by_cases e : i = n
      · grind
      · exact lackN_zero (n := n) (by omega) i (by omega)
    grind
theorem lackN_pos {S : Nat → Bool} : ∀ {n : Nat}, lackN S n ≠ 0 → ∃ i, i < n ∧ S i = false ∧ ∀ j, j < i → S j = true
  | 0, h => absurd rfl h
  | n + 1, h => by
    by_cases hn : lackN S n = 0
    · have hall := lackN_zero hn
      simp only [lackN, hn] at h
      grind
    · obtain ⟨i, h1, h2, h3⟩ := lackN_pos hn
      exact ⟨i, by omega, h2, h3⟩
theorem lackN_ge {S : Nat → Bool} {p : Nat} : ∀ {n : Nat}, n ≤ p → lackN (addS S p) n = lackN S n
  | 0, _ => rfl
  | n + 1, h => by
    simp only [lackN]
    rw [lackN_ge (by omega), addS_other S (by omega)]
theorem lackN_add {S : Nat → Bool} {p : Nat} (hp : S p = false) : ∀ {n : Nat}, p < n → lackN (addS S p) n + 1 = lackN S n
  | 0, h => by omega
  | n + 1, h => by
    simp only [lackN]
    by_cases e : p = n
    · simp_all[lackN_ge,Nat.le_refl,addS_same]
    · have := lackN_add hp (n := n) (by omega)
      rw [addS_other S (by omega)]; omega
theorem lackN_none : ∀ (n : Nat), lackN (fun _ => false) n = n
  | 0 => rfl
  | n + 1 => by simp [lackN, lackN_none n]

def listedS (listed : Array Bool) : Nat → Bool := fun i => listed.getD i false
theorem listedS_set {listed : Array Bool} {p : Nat} (hp : p < listed.size) : listedS (listed.setIfInBounds p true) = addS (listedS listed) p := by
  funext i
  simp only [listedS, addS, Array.getD_eq_getD_getElem?, Array.getElem?_setIfInBounds]
  grind

theorem put_dfs (l : Loc) (d : Option Tmp) (v : Value) : (l.put d v).dfs = l.dfs ∧ (l.put d v).rc = l.rc := by cases d <;> exact ⟨rfl, rfl⟩

/-- An order that the edges allow, from some operations on. -/
def GoodL (ops : Array Oper) : (Nat → Bool) → List Nat → Prop
  | S, [] => ∀ i, i < ops.size → S i = true
  | S, p :: ls => p < ops.size ∧ S p = false ∧ (∀ o, ops[p]? = some o → Ready o S) ∧ GoodL ops (addS S p) ls
/-- The orders that are drawn. -/
theorem lin_good {ops opsM : Array Oper} {σ τ : Nat → Nat} (od : Ord ops opsM σ τ) {M : List Nat} (bef : ∀ i, BefOk ops.toList M i) : ∀ (fuel t : Nat) (listed : Array Bool), listed.size = ops.size → lackN (fun p => listedS listed (σ p)) ops.size = fuel →
      GoodL ops (fun p => listedS listed (σ p)) ((Region.linearise.go .any opsM fuel t listed []).map τ)
  | 0, t, listed, hsz, hl => lackN_zero hl
  | fuel + 1, t, listed, hsz, hl => by
    have hτ : ∀ i, i < ops.size → τ i < ops.size := fun i hi => (od.lt (τ i)).2 (by rw [od.st]; exact hi)
    have hmem : ∀ i, i ∈ Region.ready .any opsM listed → i < ops.size ∧ listedS listed i = false ∧ ∀ o, ops[τ i]? = some o → Ready o (fun p => listedS listed (σ p)) := by
      intro i hi
      unfold Region.ready at hi
      simp only [List.mem_filter, List.mem_range, Bool.and_eq_true, Bool.not_eq_true'] at hi
      obtain ⟨h1, h2, h3⟩ := hi
      rw [← od.size] at h1
      refine ⟨h1, ?_, fun o ho e he hb => ?_⟩
      · grind[listedS,Array.getD_eq_getD_getElem?,Array.getElem?_eq_getElem]
      · obtain ⟨oM, k1, _, _, _, k5, _⟩ := od.op (τ i) o ho
        rw [od.st] at k1
        rw [k1] at h3
        simp only [Option.map_some, Option.getD_some] at h3
        obtain ⟨eM, j1, j2, j3, j4⟩ := k5 e he
        have := (Array.all_eq_true'.1 h3) eM (by simpa using j1)
        rw [binds_ground j2] at hb
        unfold binds at hb
        rw [hb] at this
        obtain ⟨m, _, hbef, _⟩ := bef (τ i) o (by grind)
        have hon := hbef e he (by rw [binds_ground j2]; unfold binds; exact hb)
        have := hτ i h1
        have hlt : eM.on < ops.size := by
          omega
        show listedS listed (σ e.on) = true
        rw [j3 hlt, od.st]
        grind[listedS,Array.all_eq_true']
    have hne : Region.ready .any opsM listed ≠ [] := by
      obtain ⟨p, h1, h2, h3⟩ := lackN_pos (S := fun p => listedS listed (σ p)) (n := ops.size) (by omega)
      intro e
      have ho : ops[p]? = some ops[p] := Array.getElem?_eq_getElem h1
      obtain ⟨m, _, hb, _⟩ := bef p ops[p] (by grind)
      obtain ⟨oM, k1, _, _, _, _, k6⟩ := od.op p _ ho
      have hσp := (od.lt p).1 h1
      have : σ p ∈ Region.ready .any opsM listed := by
        unfold Region.ready
        simp only [List.mem_filter, List.mem_range, Bool.and_eq_true, Bool.not_eq_true']
        refine ⟨by grind, ?_, ?_⟩
        · grind[listedS,Array.getD_eq_getD_getElem?,Array.getElem?_eq_getElem]
        · rw [k1]
          simp only [Option.map_some, Option.getD_some]
          refine Array.all_eq_true'.2 fun eM he => ?_
          cases hbe : Region.binds .any eM with
          | false => rfl
          | true =>
            obtain ⟨e', j1, j2, j3, j4⟩ := k6 eM (by simpa using he)
            have hon := hb e' j1 (by rw [binds_ground j2]; unfold binds; exact hbe)
            have hlt : eM.on < ops.size := by
              omega
            have := h3 e'.on hon
            rw [j3 hlt, od.st] at this
            simpa [listedS] using this
      grind
    simp only [Region.linearise.go]
    change GoodL ops (fun p => listedS listed (σ p)) (List.map τ (match (Region.ready .any opsM listed)[t % (Region.ready .any opsM listed).length]? with
      | some i => Region.linearise.go .any opsM fuel (t / (Region.ready .any opsM listed).length) (listed.setIfInBounds i true) [i]
      | none => [].reverse))
    have hlen : 0 < (Region.ready .any opsM listed).length := List.length_pos_iff.2 hne
    have hlt := Nat.mod_lt t hlen
    rw [List.getElem?_eq_getElem hlt]
    simp only []
    generalize hi : (Region.ready .any opsM listed)[t % (Region.ready .any opsM listed).length] = i
    have him : i ∈ Region.ready .any opsM listed := by grind
    obtain ⟨h1, h2, h3⟩ := hmem i him
    have h1' := hτ i h1
    have h2' : (fun p => listedS listed (σ p)) (τ i) = false := by show listedS listed (σ (τ i)) = false; rw [od.st]; exact h2
    rw [linearise_go_acc, List.reverse_singleton, List.singleton_append, List.map_cons]
    have hS : (fun p => listedS (listed.setIfInBounds i true) (σ p)) = addS (fun p => listedS listed (σ p)) (τ i) := by
      funext p
      rw [listedS_set (listed := listed) (p := i) (by omega)]
      by_cases e : p = τ i
      · subst e
        rw [od.st, addS_same, addS_same]
      · rw [addS_other _ e, addS_other _ (by intro e2; exact e (by rw [← e2, od.ts]))]
    refine ⟨h1', h2', h3, ?_⟩
    rw [← hS]
    exact lin_good od bef fuel _ _ (by simpa using hsz) (by grind[lackN_add,listedS])

section
variable {E : Env} {P : Program} (ok : EOk E P) {R : Rec} (hc : CallOk E P R.call) (hcode : CodeOk P R.code)
variable {ops : Array Oper} {q : Nat} {ps : List (Nat × Nat)} {M : List Nat} {L : Nat → Loc} {H : Nat → Hp} {T : Nat → Option Nat} {X : Nat → Bool} (D : DT E R ops q ps M L H T X)
variable {nr : Nat} {mu0 : Mu} {w0 : World}

include D in
theorem down_add {S : Nat → Bool} (hd : Down ops S) {p : Nat} {o : Oper} (ho : ops[p]? = some o) (hr : Ready o S) : Down ops (addS S p) := by
  intro i oi hoi hs e he hb
  by_cases hip : i = p
  · subst hip
    rw [ho] at hoi; cases hoi
    obtain ⟨m, _, h2, _⟩ := D.bef i o (by grind)
    have := h2 e he hb
    rw [addS_other S (by omega)]
    exact hr e he hb
  · rw [addS_other S hip] at hs
    have := hd i oi hoi hs e he hb
    grind[addS_same,addS_other]

include ok hc hcode D in
/-- The model follows an order that the edges allow. -/
theorem go_list (turn : ∀ j o, j < ops.size → ops[j]? = some o → Turn ops E X q H T j o) (shd : ∀ i, i ≤ ops.size → Shadow nr mu0 w0 L H i) (lt0 : ∀ b, mu0 b ≠ .none → b < (H 0).n) (clt0 : ∀ b c base top, mu0 b = .blk c base top → c < w0.heap.size)
    {opsF : Array Oper} {σ : Nat → Nat} (sm : SameAs ops opsF σ) {tl : List Nat} {F : FC} {dfs : List Deferred} {k : List Item} {cs : List Frame} : ∀ (ls : List Nat) (S : Nat → Bool) (mu : Mu) (w : World) (tmps : Array Value), GoodL ops S ls → Down ops S →
      Inv E ops q L H X nr mu0 w0 S mu w tmps →
      ∃ S' mu' w' tmps', Inv E ops q L H X nr mu0 w0 S' mu' w' tmps' ∧ (∀ i, i < ops.size → S' i = true) ∧
        Steps P (lone (F.mk' tmps dfs (.inRegion opsF (ls.map σ ++ tl) :: k)) cs w) (lone (F.mk' tmps' dfs (.inRegion opsF tl :: k)) cs w')
  | [], S, mu, w, tmps, hg, hd, inv => ⟨S, mu, w, tmps, inv, hg, Steps.refl _ _⟩
  | p :: ls, S, mu, w, tmps, hg, hd, inv => by
    obtain ⟨h1, h2, h3, h4⟩ := hg
    have ho : ops[p]? = some ops[p] := Array.getElem?_eq_getElem h1
    have hr := h3 _ ho
    obtain ⟨mu1, w1, tmps1, inv1, st1⟩ := inv_step ok hc hcode D turn shd lt0 clt0 sm inv hd ho hr h2 (F := F) (dfs := dfs) (k := k) (cs := cs) (rest := ls.map σ ++ tl)
    obtain ⟨S', mu', w', tmps', g1, g2, g3⟩ := go_list turn shd lt0 clt0 sm ls _ mu1 w1 tmps1 h4 (down_add D hd ho hr) inv1
    exact ⟨S', mu', w', tmps', g1, g2, Steps.trans st1 g3⟩

include ok hc hcode in
/-- The operations of a region in an order that the plan's edges allow. -/
theorem draw_list (cx : Cx) (ops opsF : Array Oper) {σ : Nat → Nat} (sm : SameAs ops opsF σ) (ls : List Nat) (hg : GoodL ops (fun _ => false) ls) (tl : List Nat) (l : Loc) (h : Hp) (l' : Loc) (h' : Hp) (q : Nat) (ps : List (Nat × Nat)) (tr : List (Nat × Tch))
    (hp : plan E ops.toList = some (q, ps)) (he : evOpsD E R ops.toList q ops.toList 0 l h [] = some (l', h', tr)) (hpo : pairsOk tr ps = true)
    (mu : Mu) (w : World) (F : FC) (cs0 : List Frame) (tmps : Array Value) (dfs : List Deferred) (rcC : Option (Value × Bool)) (k : List Item) (s : SR P cx l h mu w F cs0 tmps dfs rcC) :
    ∃ mu' w' tmps', SR P cx l' h' mu' w' F cs0 tmps' dfs rcC ∧ Ext mu h w mu' h' w' ∧
      Steps P (lone (F.mk' tmps dfs (.inRegion opsF (ls.map σ ++ tl) :: k)) (callersOf rcC cs0) { w with drawn := w.drawn + 1 })
        (lone (F.mk' tmps' dfs (.inRegion opsF tl :: k)) (callersOf rcC cs0) w') := by
  obtain ⟨M, hM1, hM2⟩ := plan_ok hp
  obtain ⟨_, L, H, T, X, hL0, hH0, hLn, hHn, hstep, htr, hrun⟩ := trace_ok _ _ _ _ _ _ _ _ he
  rw [Nat.zero_add, Array.length_toList] at hLn hHn
  have D : DT E R ops q ps M L H T X := by
    refine ⟨hM1, fun n o ho h4 => ?_, fun n o m i p ho hm hi hp' hb => ?_, fun i o ho => ?_, fun {i j a b o p} hij ho hp ro rp ha hb => ?_, fun {i j a o p} hij ho hp ro rp hx hh ha => ?_⟩
    · grind
    · grind
    · grind
    · have e1 := htr i o a (by grind) ro (by grind)
      have e2 := htr j p b (by grind) rp (by grind)
      rw [Nat.zero_add] at e1 e2
      have := pairs_ok hpo hij
      grind[pairOk,Nat.beq_refl]
    · have e1 := htr i o a (by grind) ro (by grind)
      have e2 := hrun j p (by grind) rp (by grind) (by grind)
      rw [Nat.zero_add] at e1 e2
      rcases hij with hij | hij
      · have := pairs_ok hpo hij
        rw [e1, e2] at this
        exact leaves_ok this
      · have := pairs_ok hpo hij
        rw [e1, e2] at this
        exact leaves_ok this
  let w0 : World := { w with drawn := w.drawn + 1 }
  have hr0 : HRel mu h w0 := hrel_drew s.hr rfl
  have e0 : Ext mu h w mu h w0 := ext_drew s.hr rfl rfl rfl rfl
  have sh0 : Shadow cx.nr mu w0 L H 0 := ⟨mu, w0, tmps, by grind, s.glob, by rw [hL0]; exact s.regs, by rw [hH0]; exact Ext.refl mu h w0 hr0⟩
  have shd : ∀ i, i ≤ ops.size → Shadow cx.nr mu w0 L H i := fun i hi => (shadow ok hc hcode D i hi sh0).1
  have turn : ∀ j o, j < ops.size → ops[j]? = some o → Turn ops E X q H T j o := fun j o hj ho => (shadow ok hc hcode D ops.size (Nat.le_refl _) sh0).2 j o hj ho
  have lt0 : ∀ b, mu b ≠ .none → b < (H 0).n := by rw [hH0]; exact s.hr.lt
  have clt0 : ∀ b c base top, mu b = .blk c base top → c < w0.heap.size := fun b c base top hm => hr0.clt hm
  have sized : ∀ j, j ≤ ops.size → (H j).t.Sized (H j).n := fun j hj => by obtain ⟨_, _, _, g, _⟩ := shd j hj; exact g.sized
  have inv0 : Inv E ops q L H X cx.nr mu w0 (fun _ => false) mu w0 tmps := by
    obtain ⟨c', d1, d2, d3, d4⟩ := next_W (E := E) (ops := ops) (q := q) (X := X) ops.size 0 (by omega)
    refine ⟨⟨c', ⟨d2, ?_, fun i o hi ho hw => absurd hw (d4 i o (Nat.zero_le _) hi ho)⟩, ?_⟩, s.glob, fun p hpp _ b h1 h2 => ?_, s.regs.size, fun i hi t v hcond hv => ?_, by rw [hH0]; exact WExt.refl hr0, fun p _ hs => by cases hs⟩
    · grind
    · refine hrel_stand (h := H 0) (by grind) (sized c' d2) (n_mono turn d1 d2) (fun b hb => stand turn d1 d2 (fun j oj h1 h2 hoj => ?_) hb)
      grind[kinds,absurd]
    · exact hr0.none_ge (by
        have := n_mono turn (Nat.zero_le p) (by omega)
        grind)
    · have hwalk : (L (0 + i)).regs.get t = (L 0).regs.get t := by
        refine walk_eq (fun j => (L j).regs.get t) (a := 0) i (fun j h1 h2 => ?_)
        have hoj : ops[j]? = some ops[j] := Array.getElem?_eq_getElem (by omega)
        grind[regs_other]
      rw [Nat.zero_add] at hwalk
      rw [hwalk, hL0] at hv
      exact s.regs.get t v hv
  obtain ⟨S', mu', w', tmps', g1, g2, g3⟩ := go_list ok hc hcode D turn shd lt0 clt0 sm (tl := tl) (F := F) (dfs := dfs) (k := k) (cs := callersOf rcC cs0) ls _ mu w0 tmps hg (fun i o _ hs => by cases hs) inv0
  obtain ⟨c, hC, hh⟩ := g1.c
  have hcn : c = ops.size := by
    rcases hC.2.1 with e | ⟨o, ho, _, hs⟩
    · exact e
    grind
  subst hcn
  rw [hHn] at hh
  obtain ⟨muT, wT, tmpsT, t1, t2, t3, t4⟩ := shd ops.size (Nat.le_refl _)
  rw [hLn] at t3
  rw [hHn] at t1 t4
  have le : Le mu mu' := by
    intro b hb
    rcases g1.ext.old b (lt0 b hb) with x | ⟨_, x⟩
    · exact .inl x
    · exact .inr x
  have hkeep : ∀ i, i ≤ ops.size → (L i).dfs = l.dfs ∧ (L i).rc = l.rc := by
    intro i
    induction i with
    | zero => grind
    | succ i ih =>
      intro hi
      have := ih (by omega)
      have hs := D.step i ops[i] (Array.getElem?_eq_getElem (by omega))
      generalize L (i + 1) = L1 at hs ⊢
      generalize H (i + 1) = H1 at hs
      generalize T i = T1 at hs
      generalize X i = X1 at hs
      cases hs with
      | skip hg => grind[put_dfs,trans]
      | exec hg hst => grind[put_dfs,trans]
  have hk := hkeep ops.size (Nat.le_refl _)
  rw [hLn] at hk
  have ext : Ext mu h w0 mu' h' w' := by
    have W := g1.ext
    rw [hH0] at W t4
    refine ⟨t4.n, W.old, W.fresh, t4.lo, t4.same, W.frame, fun b c base top t sz el hm hg => ?_, W.wsize, W.os, W.tape, W.output, fun b h1 h2 => ?_⟩
    · obtain ⟨x, y⟩ := W.ro b c base top t sz el hm hg
      exact ⟨x, (t4.ro b c base top t sz el hm hg).2.1, y⟩
    · have key : ∀ i, i ≤ ops.size → b < (H i).n → mu' b ≠ .none := by
        intro i
        induction i with
        | zero => grind
        | succ i ih =>
          intro hi hb
          by_cases hbi : b < (H i).n
          · grind
          · exact g1.cov i (by omega) (g2 i (by omega)) b (by omega) hb
      grind
  refine ⟨mu', w', tmps', ⟨hh, g1.glob, ⟨g1.size, t3.sized, fun i v hv => ?_⟩, ?_, ?_, s.ko, s.fn, s.rd.mono le, s.rn, s.fs⟩, Ext.trans e0 ext, g3⟩
  · refine g1.regs ops.size (Nat.le_refl _) i v (fun p o ho _ => ?_) (by grind)
    grind
  · rw [hk.1]; exact LR.mono s.dfs fun _ _ => DRel.mono le
  · rw [hk.2]; exact s.rc.mono le
include ok hc hcode in
/-- The operations of a region, or the first ones of a longer one, in any order. -/
theorem draw_core (cx : Cx) (opsM opsF : Array Oper) (hF : opsF = opsM ∨ (∀ (i : Nat), i < opsM.size → opsF[i]? = opsM[i]?) ∧ ∀ x ∈ opsM.toList, guardIn opsM.size x = true) (tl : List Nat) (l : Loc) (h : Hp) (l' : Loc) (h' : Hp) (q : Nat) (ps : List (Nat × Nat)) (tr : List (Nat × Tch))
    (hp : plan E (hoist opsM.toList) = some (q, ps)) (he : evOpsD E R (hoist opsM.toList) q (hoist opsM.toList) 0 l h [] = some (l', h', tr)) (hpo : pairsOk tr ps = true)
    (mu : Mu) (w : World) (F : FC) (cs0 : List Frame) (tmps : Array Value) (dfs : List Deferred) (rcC : Option (Value × Bool)) (k : List Item) (s : SR P cx l h mu w F cs0 tmps dfs rcC) (t : Nat) :
    ∃ mu' w' tmps', SR P cx l' h' mu' w' F cs0 tmps' dfs rcC ∧ Ext mu h w mu' h' w' ∧
      Steps P (lone (F.mk' tmps dfs (.inRegion opsF (Region.linearise.go .any opsM opsM.size t (Array.replicate opsM.size false) [] ++ tl) :: k)) (callersOf rcC cs0) { w with drawn := w.drawn + 1 })
        (lone (F.mk' tmps' dfs (.inRegion opsF tl :: k)) (callersOf rcC cs0) w') := by
  obtain ⟨ops, σ, τ, hC, od⟩ := hoist_ord opsM
  have sm : SameAs ops opsF σ := by
    rcases hF with rfl | ⟨h1, h2⟩
    · exact od.same
    · exact od.part h1 h2
  rw [← hC] at hp he
  have hlS : (fun p => listedS (Array.replicate opsM.size false) (σ p)) = fun _ => false := by
    funext i
    simp only [listedS, Array.getD_eq_getD_getElem?, Array.getElem?_replicate]
    split <;> rfl
  obtain ⟨M, hM1, _⟩ := plan_ok hp
  have hg := lin_good od hM1 opsM.size t (Array.replicate opsM.size false) (by simp [od.size]) (by rw [hlS, ← od.size]; exact lackN_none _)
  rw [hlS] at hg
  have r := draw_list ok hc hcode cx ops opsF sm _ hg tl l h l' h' q ps tr hp he hpo mu w F cs0 tmps dfs rcC k s
  rw [List.map_map, show (σ ∘ τ) = id from funext od.st, List.map_id] at r
  exact r
include ok hc hcode in
theorem draw_ok : DrawOk E P R := by
  intro cx id opsM l h l' h' q ps tr hp he hpo mu w F cs0 tmps dfs rcC k s
  have hsched : Region.schedule (P.follows .mixedOrders) opsM (w.tape w.drawn (.order F.fn id)) = Region.linearise.go .any opsM opsM.size (w.tape w.drawn (.order F.fn id)) (Array.replicate opsM.size false) [] := by
    rw [ok.mixed]; rfl
  obtain ⟨mu', w', tmps', s', e', g3⟩ := draw_core ok hc hcode cx opsM opsM (.inl rfl) [] l h l' h' q ps tr hp he hpo mu w F cs0 tmps dfs rcC k s (w.tape w.drawn (.order F.fn id))
  rw [List.append_nil] at g3
  refine ⟨mu', w', tmps', dfs, rcC, s', e', Steps.trans (.one ?_) (Steps.trans g3 (.one st_region_end))⟩
  rw [← hsched]
  rfl

/-! ### a last operation behind all others -/
theorem bef_bit {ops : Array Oper} {M : List Nat} (hb : ∀ i, BefOk ops.toList M i) {S : Nat → Bool} {N : Nat} (hd : ∀ (i : Nat) o, i < N → ops[i]? = some o → S i = true → ∀ e ∈ o.after.toList, binds e = true → S e.on = true) : ∀ (n : Nat) (o : Oper) (m i : Nat), n ≤ N → ops[n]? = some o → M[n]? = some m → Ready o S → m.testBit i = true → S i = true := by
  intro n
  induction n using Nat.strongRecOn with
  | _ n ih =>
    intro o m i hn ho hm hr hbi
    obtain ⟨m', h1, h2, h3⟩ := hb n o (by grind)
    rw [hm] at h1; cases h1
    obtain ⟨e, he, hbe, x⟩ := h3 i hbi
    have hse := hr e he hbe
    rcases x with rfl | ⟨m2, hm2, hb2⟩
    · exact hse
    · have hlt := h2 e he hbe
      have hsz : n < ops.size := (Array.getElem?_eq_some_iff.1 ho).1
      have hoe : ops[e.on]? = some ops[e.on] := Array.getElem?_eq_getElem (by omega)
      exact ih e.on hlt ops[e.on] m2 i (by omega) hoe hm2 (fun e' he' hbe' => hd e.on _ (by omega) hoe hse e' he' hbe') hb2

theorem push_getD (l : Array Bool) (i : Nat) : (l.push false).getD i false = l.getD i false := by
  simp only [Array.getD_eq_getD_getElem?, Array.getElem?_push]
  grind
theorem ready_push {ops A : Array Oper} {n : Nat} (hA : A.size = n) (hn : ops.size = n + 1) (hget : ∀ i, i < n → ops[i]? = A[i]?) (l : Array Bool) (hl : l.size = n) :
    Region.ready .any ops (l.push false) = Region.ready .any A l ++ (if ((ops[n]?).map (·.after.all fun e => !Region.binds .any e || l.getD e.on false)).getD false = true then [n] else []) := by
  unfold Region.ready
  rw [hn, hA, List.range_succ, List.filter_append]
  congr 1
  · refine List.filter_congr fun i hi => ?_
    have hi' : i < n := List.mem_range.1 hi
    rw [hget i hi']
    simp only [push_getD]
    congr 2
    simp only [Array.getD_eq_getD_getElem?, Array.getElem?_push]
    grind
  · simp only [push_getD]
    simp_all[Array.getD_eq_getD_getElem?,Array.getElem?_push,if_pos,List.filter_cons,List.filter_nil,Bool.not_false,Bool.true_and]

theorem lin_pop {ops A : Array Oper} {n : Nat} (hA : A.size = n) (hn : ops.size = n + 1) (hget : ∀ i, i < n → ops[i]? = A[i]?) {M : List Nat} (hb : ∀ i, BefOk ops.toList M i) {mx : Nat} (hmx : M[n]? = some mx) (hfull : ∀ i, i < n → mx.testBit i = true) :
    ∀ (fuel t : Nat) (l : Array Bool), l.size = n → (∀ (i : Nat) o, i < n → ops[i]? = some o → listedS l i = true → ∀ e ∈ o.after.toList, binds e = true → listedS l e.on = true) → lackN (listedS l) n = fuel →
      Region.linearise.go .any ops (fuel + 1) t (l.push false) [] = Region.linearise.go .any A fuel t l [] ++ [n] := by
  have hx : ops[n]? = some (ops[n]'(by omega)) := Array.getElem?_eq_getElem _
  obtain ⟨m0, k1, k2, _⟩ := hb n _ (by rw [Array.getElem?_toList]; exact hx)
  have goS : ∀ (B : Array Oper) (fuel t : Nat) (l : Array Bool), Region.linearise.go .any B (fuel + 1) t l [] = (match (Region.ready .any B l)[t % (Region.ready .any B l).length]? with
      | some i => Region.linearise.go .any B fuel (t / (Region.ready .any B l).length) (l.setIfInBounds i true) [i]
      | none => []) := fun _ _ _ _ => rfl
  intro fuel
  induction fuel with
  | zero =>
    intro t l hl hd hla
    have hall := lackN_zero hla
    have hr0 : Region.ready .any A l = [] := by
      grind[Region.ready,List.filter_eq_nil_iff,listedS,Array.getD_eq_getD_getElem?,Array.getElem?_eq_getElem]
    have hrd : Region.ready .any ops (l.push false) = [n] := by
      rw [ready_push hA hn hget l hl, hr0, hx]
      simp only [Option.map_some, Option.getD_some, List.nil_append]
      rw [if_pos]
      refine Array.all_eq_true'.2 fun e he => ?_
      cases hbe : Region.binds .any e with
      | false => rfl
      | true =>
        have := k2 e (by simpa using he) hbe
        grind[listedS]
    rw [goS, hrd]
    simp [Region.linearise.go, Nat.mod_one]
  | succ fuel ih =>
    intro t l hl hd hla
    have hnr : Region.ready .any ops (l.push false) = Region.ready .any A l := by
      rw [ready_push hA hn hget l hl, if_neg, List.append_nil]
      intro hc
      obtain ⟨p, p1, p2, _⟩ := lackN_pos (S := listedS l) (n := n) (by omega)
      have : listedS l p = true := by
        refine bef_bit hb hd n _ mx p (Nat.le_refl _) hx hmx (fun e he hbe => ?_) (hfull p p1)
        grind[Array.all_eq_true',binds,listedS]
      grind
    rw [goS, goS, hnr]
    have hne : Region.ready .any A l ≠ [] := by
      obtain ⟨p, p1, p2, p3⟩ := lackN_pos (S := listedS l) (n := n) (by omega)
      have ho : ops[p]? = some (ops[p]'(by omega)) := Array.getElem?_eq_getElem _
      obtain ⟨m, _, hbp, _⟩ := hb p _ (by rw [Array.getElem?_toList]; exact ho)
      have : p ∈ Region.ready .any A l := by
        unfold Region.ready
        simp only [List.mem_filter, List.mem_range, Bool.and_eq_true, Bool.not_eq_true']
        refine ⟨by omega, ?_, ?_⟩
        · grind[listedS,Array.getD_eq_getD_getElem?,Array.getElem?_eq_getElem]
        · rw [← hget p p1, ho]
          simp only [Option.map_some, Option.getD_some]
          refine Array.all_eq_true'.2 fun e he => ?_
          cases hbe : Region.binds .any e with
          | false => rfl
          | true =>
            have := p3 e.on (hbp e (by simpa using he) hbe)
            simpa [listedS] using this
      grind
    have hlen : 0 < (Region.ready .any A l).length := List.length_pos_iff.2 hne
    have hlt := Nat.mod_lt t hlen
    rw [List.getElem?_eq_getElem hlt]
    simp only []
    generalize hi : (Region.ready .any A l)[t % (Region.ready .any A l).length] = i
    have him : i ∈ Region.ready .any A l := by grind
    have him2 := him
    unfold Region.ready at him2
    simp only [List.mem_filter, List.mem_range, Bool.and_eq_true, Bool.not_eq_true'] at him2
    obtain ⟨h1, h2, h3⟩ := him2
    rw [hA] at h1
    have h2' : listedS l i = false := by
      grind[listedS,Array.getD_eq_getD_getElem?,Array.getElem?_eq_getElem]
    have hset : (l.push false).setIfInBounds i true = (l.setIfInBounds i true).push false := by
      grind
    have hadd := listedS_set (listed := l) (p := i) (by omega)
    rw [linearise_go_acc, linearise_go_acc (acc := [i]), List.append_assoc, hset]
    rw [ih _ (l.setIfInBounds i true) (by simpa using hl) ?_ ?_]
    · rw [hadd]
      grind[Array.all_eq_true',binds,listedS,addS,addS_other]
    grind[lackN_add,listedS]

theorem split_sched {ops : Array Oper} {n : Nat} (hn : ops.size = n + 1) (hso : splitOk ops.toList n = true) (t : Nat) : Region.linearise.go .any ops (n + 1) t (Array.replicate (n + 1) false) [] = Region.linearise.go .any (ops.extract 0 n) n t (Array.replicate n false) [] ++ [n] := by
  unfold splitOk at hso
  simp only [Bool.and_eq_true] at hso
  obtain ⟨hfm, hgd⟩ := hso
  unfold fullM at hfm
  have hlen : ops.toList.length = ops.size := by simp
  split at hfm
  next m ms hbf =>
    obtain ⟨g1, _, g3⟩ := befs_ok _ _ _ hbf
    simp only [List.length_nil, Nat.zero_add] at g1 g3
    have hbe : ∀ i, BefOk ops.toList (m :: ms).reverse i := fun i o ho => g3 i o ho
    have hmx : (m :: ms).reverse[n]? = some m := by
      grind
    have hfull : ∀ i, i < n → m.testBit i = true := fun i hi => List.all_eq_true.1 hfm i (List.mem_range.2 hi)
    have hAs : (ops.extract 0 n).size = n := by simp; omega
    have hget : ∀ i, i < n → ops[i]? = (ops.extract 0 n)[i]? := by
      grind
    generalize ops.extract 0 n = A at *
    have hlS : listedS (Array.replicate n false) = fun _ => false := by
      funext i
      simp only [listedS, Array.getD_eq_getD_getElem?, Array.getElem?_replicate]
      split <;> rfl
    rw [Array.replicate_succ]
    grind[lin_pop,lackN_none]
  grind

include ok hc hcode in
theorem split_sim (cx : Cx) (id : Nat) (ops : Array Oper) (l : Loc) (h : Hp) (l' : Loc) (h' : Hp) (x : Ex) (mu : Mu) (w : World) (F : FC) (cs0 : List Frame) (tmps : Array Value) (dfs : List Deferred) (rcC : Option (Value × Bool)) (k : List Item) (s : SR P cx l h mu w F cs0 tmps dfs rcC) (n : Nat) (hn : n ≤ ops.size) (hgd : (ops.toList.take n).all (guardIn n) = true)
    (hsched : ∀ t, Region.linearise.go .any ops ops.size t (Array.replicate ops.size false) [] = Region.linearise.go .any (ops.extract 0 n) n t (Array.replicate n false) [] ++ List.range' n (ops.size - n))
    (hl : (match plan E (hoist (ops.toList.take n)) with
      | none => none
      | some (q, ps) => match evOpsD E R (hoist (ops.toList.take n)) q (hoist (ops.toList.take n)) 0 l h [] with
        | none => none
        | some (l', h', tr) => bif pairsOk tr ps then evOps E R cx ops.toList (ops.toList.drop n) l' h' else none) = some (x, l', h')) :
    Sim P cx h mu w F cs0 tmps dfs rcC (.code (.region id ops true) :: k) k x l' h' := by
  have hAt : (ops.extract 0 n).toList = ops.toList.take n := by simp
  have hAs : (ops.extract 0 n).size = n := by simp; omega
  have hget : ∀ i, i < n → ops[i]? = (ops.extract 0 n)[i]? := by
    grind
  rw [← hAt] at hl hgd
  generalize ops.extract 0 n = A at *
  cases hp : plan E (hoist A.toList) with
  | none => grind
  | some qp =>
    obtain ⟨q, ps⟩ := qp
    rw [hp] at hl
    simp only [] at hl
    cases he : evOpsD E R (hoist A.toList) q (hoist A.toList) 0 l h [] with
    | none => grind
    | some q3 =>
      obtain ⟨l1, h1, tr⟩ := q3
      rw [he] at hl
      simp only [] at hl
      cases hpo : pairsOk tr ps with
      | false => grind
      | true =>
        rw [hpo] at hl
        simp only [cond_true] at hl
        have hs2 : Region.schedule (P.follows .mixedOrders) ops (w.tape w.drawn (.order F.fn id)) = Region.linearise.go .any A A.size (w.tape w.drawn (.order F.fn id)) (Array.replicate A.size false) [] ++ List.range' n (ops.size - n) := by
          rw [ok.mixed, hAs]
          exact hsched _
        obtain ⟨mu1, w1, tmps1, s1, e1, g⟩ := draw_core ok hc hcode cx A ops (.inr ⟨fun i hi => hget i (by omega), fun x hx => by grind⟩) (List.range' n (ops.size - n)) l h l1 h1 q ps tr hp he hpo mu w F cs0 tmps dfs rcC k s (w.tape w.drawn (.order F.fn id))
        have r := evOps_sim ok hc hcode (ops := ops) (k := k) (ops.toList.drop n) n _ _ _ _ _ _ _ _ _ _ rfl s1 hl
        have hdl : (ops.toList.drop n).length = ops.size - n := by grind
        rw [hdl] at r
        refine Sim.pre (Steps.trans (.one ?_) g) e1 r
        grind[st_region_draw]

include ok hc hcode in
theorem splitD_sim (cx : Cx) (id : Nat) (ops : Array Oper) (l : Loc) (h : Hp) (l' : Loc) (h' : Hp) (x : Ex) (hl : splitD E R cx ops.toList l h = some (x, l', h')) (mu : Mu) (w : World) (F : FC) (cs0 : List Frame) (tmps : Array Value) (dfs : List Deferred) (rcC : Option (Value × Bool)) (k : List Item) (s : SR P cx l h mu w F cs0 tmps dfs rcC) :
    Sim P cx h mu w F cs0 tmps dfs rcC (.code (.region id ops true) :: k) k x l' h' := by
  unfold splitD at hl
  have hlen : ops.toList.length = ops.size := by simp
  cases hso : splitOk ops.toList (ops.toList.length - 1) with
  | false => grind
  | true =>
    rw [hso] at hl
    simp only [cond_true] at hl
    have hpos : 0 < ops.size := by
      rcases Nat.eq_zero_or_pos ops.size with h0 | h0
      · have : ops.toList = [] := by grind
        rw [this] at hso
        cases hso
      · exact h0
    obtain ⟨n, hn⟩ : ∃ n, ops.size = n + 1 := ⟨ops.size - 1, by omega⟩
    have hn1 : ops.toList.length - 1 = n := by omega
    unfold cutN at hl
    rw [hn1] at hl hso
    have e1 := split_sched hn hso
    cases hc2 : tail2 ops.toList && splitOk (ops.toList.take n) (n - 1) with
    | false =>
      rw [hc2] at hl
      refine split_sim ok hc hcode cx id ops l h l' h' x mu w F cs0 tmps dfs rcC k s n (by omega) (Bool.and_eq_true_iff.1 hso).2 (fun t => ?_) hl
      rw [show ops.size - n = 1 by omega]
      grind
    | true =>
      rw [hc2] at hl
      have hs2 : splitOk (ops.toList.take n) (n - 1) = true := (Bool.and_eq_true_iff.1 hc2).2
      have hAt : (ops.extract 0 n).toList = ops.toList.take n := by simp
      have hAs : (ops.extract 0 n).size = n := by simp; omega
      rw [← hAt] at hs2
      have hp2 : 0 < n := by
        rcases Nat.eq_zero_or_pos n with h0 | h0
        · have : (ops.extract 0 n).toList = [] := by grind
          rw [this] at hs2
          cases hs2
        · exact h0
      obtain ⟨k2, hk⟩ : ∃ k2, n = k2 + 1 := ⟨n - 1, by omega⟩
      have hk1 : n - 1 = k2 := by omega
      rw [hk1] at hl hs2
      have e2 := split_sched (hAs.trans hk) hs2
      have hg2 := (Bool.and_eq_true_iff.1 hs2).2
      have ee : (ops.extract 0 n).extract 0 k2 = ops.extract 0 k2 := by grind
      have ee2 : (ops.extract 0 n).toList.take k2 = ops.toList.take k2 := by rw [hAt, List.take_take, Nat.min_eq_left (by omega)]
      rw [ee] at e2
      rw [ee2] at hg2
      refine split_sim ok hc hcode cx id ops l h l' h' x mu w F cs0 tmps dfs rcC k s k2 (by omega) hg2 (fun t => ?_) hl
      rw [show ops.size - k2 = 2 by omega, hn, e1, hk]
      rw [hk] at e2
      rw [e2]
      simp [List.range']
end

end Go.Ab

/- Drawn orders: two entries of a new map, in any order. -/
namespace Go.Ab

/-! ### orders -/
/-- x stands ahead of y. -/
def befL (x y : Nat) : List Nat → Prop
  | [] => False
  | p :: r => p = x ∨ (p ≠ y ∧ befL x y r)
theorem befL_or {x y : Nat} : ∀ {l : List Nat}, x ∈ l → befL x y l ∨ befL y x l
  | [], h => by cases h
  | p :: r, h => by
    by_cases e1 : p = x
    · exact .inl (.inl e1)
    by_cases e2 : p = y
    · exact .inr (.inl e2)
    rcases List.mem_cons.1 h with e | h
    · exact absurd e.symm e1
    rcases befL_or (y := y) h with h | h
    · exact .inl (.inr ⟨e2, h⟩)
    · exact .inr (.inr ⟨e1, h⟩)
theorem befL_map {f : Nat → Nat} {x y : Nat} (inj : ∀ p, f p = f y → p = y) : ∀ {l : List Nat}, befL x y l → befL (f x) (f y) (l.map f)
  | p :: r, h => by
    rcases h with h | ⟨h1, h2⟩
    · exact .inl (by rw [h])
    · exact .inr ⟨fun e => h1 (inj _ e), befL_map inj h2⟩
theorem good_mem {ops : Array Oper} {i : Nat} (hi : i < ops.size) : ∀ {l : List Nat} {S : Nat → Bool}, GoodL ops S l → S i = false → i ∈ l
  | [], S, h, hs => by have := h i hi; grind
  | p :: r, S, h, hs => by
    by_cases e : p = i
    · grind
    · exact List.mem_cons_of_mem _ (good_mem hi h.2.2.2 (by rw [addS_other S (Ne.symm e)]; exact hs))
theorem tieL_get (os : List Oper) (k i : Nat) : (tieL os k)[i]? = (os[i]?).map (tie k i) := by
  unfold tieL; grind
theorem tieL_len (os : List Oper) (k : Nat) : (tieL os k).length = os.length := by unfold tieL; grind
theorem tie_same (k i : Nat) (o : Oper) : (tie k i o).op = o.op ∧ (tie k i o).dst = o.dst ∧ (tie k i o).guard = o.guard := by
  unfold tie; grind
theorem good_tie {ops : Array Oper} {k : Nat} : ∀ {l : List Nat} {S : Nat → Bool}, GoodL ops S l → (S k = true ∨ befL k (k + 1) l) → GoodL (tieL ops.toList k).toArray S l
  | [], S, h, _ => by
    intro i hi
    rw [List.size_toArray, tieL_len] at hi
    exact h i (by simpa using hi)
  | p :: r, S, h, hb => by
    obtain ⟨h1, h2, h3, h4⟩ := h
    refine ⟨by rw [List.size_toArray, tieL_len]; simpa using h1, h2, fun o ho => ?_, good_tie h4 ?_⟩
    · rw [List.getElem?_toArray, tieL_get] at ho
      obtain ⟨o', ho', rfl⟩ := Option.map_eq_some_iff.1 ho
      have hr := h3 o' (by grind)
      unfold tie
      cases hk : Nat.beq p (k + 1) with
      | false => exact hr
      | true =>
        have hk := Nat.eq_of_beq_eq_true hk
        intro e he hbe
        simp only [cond_true, Array.toList_push, List.mem_append, List.mem_singleton] at he
        rcases he with he | rfl
        · exact hr e he hbe
        · rcases hb with hb | hb | ⟨hb, _⟩
          · exact hb
          · omega
          omega
    · by_cases e : k = p
      · subst e; exact .inl (addS_same S k)
      · rw [addS_other S e]
        rcases hb with hb | hb | ⟨_, hb⟩
        · exact .inl hb
        · omega
        · exact .inr hb
theorem good_ord {ops ops2 : Array Oper} {σ τ : Nat → Nat} (od : Ord ops2 ops σ τ) {M : List Nat} (bef : ∀ i, BefOk ops.toList M i) : ∀ {l : List Nat} {S : Nat → Bool}, GoodL ops S l → GoodL ops2 (fun p => S (σ p)) (l.map τ)
  | [], S, h => fun i hi => h _ (by rw [← od.size]; exact (od.lt i).1 hi)
  | p :: r, S, h => by
    obtain ⟨h1, h2, h3, h4⟩ := h
    refine ⟨(od.lt _).2 (by rw [od.st, od.size]; exact h1), by show S (σ (τ p)) = false; rw [od.st]; exact h2, fun o ho e he hbe => ?_, ?_⟩
    · obtain ⟨oM, k1, _, _, _, k5, _⟩ := od.op _ o ho
      rw [od.st] at k1
      obtain ⟨eM, j1, j2, j3, j4⟩ := k5 e he
      rw [binds_ground j2] at hbe
      have hS := h3 oM k1 eM j1 hbe
      obtain ⟨m, _, hb, _⟩ := bef p oM (by grind)
      have hlt : eM.on < ops2.size := by have := hb eM j1 hbe; rw [od.size]; omega
      show S (σ e.on) = true
      rw [j3 hlt, od.st]; exact hS
    · have := good_ord od bef h4
      have hS : (fun q => addS S p (σ q)) = addS (fun q => S (σ q)) (τ p) := by
        funext q
        by_cases e : q = τ p
        · subst e; rw [od.st, addS_same, addS_same]
        · rw [addS_other _ e, addS_other _ (by intro e2; exact e (by rw [← e2, od.ts]))]
      grind
theorem SameAs.tie {ops opsF : Array Oper} {σ : Nat → Nat} (s : SameAs ops opsF σ) (k : Nat) : SameAs (tieL ops.toList k).toArray opsF σ := by
  have back : ∀ (p : Nat) (o : Oper), (tieL ops.toList k).toArray[p]? = some o → ∃ o', ops[p]? = some o' ∧ o.op = o'.op ∧ o.dst = o'.dst ∧ o.guard = o'.guard := by
    intro p o ho
    rw [List.getElem?_toArray, tieL_get] at ho
    obtain ⟨o', ho', rfl⟩ := Option.map_eq_some_iff.1 ho
    grind[tie_same]
  refine ⟨fun p o ho => ?_, fun p o j want ho hg hj => ?_⟩
  · obtain ⟨o', h1, h2, h3, h4⟩ := back p o ho
    rw [h2, h3, h4]
    exact s.op p o' h1
  · obtain ⟨o', h1, h2, h3, h4⟩ := back p o ho
    refine s.no p o' j want h1 (by grind) ?_
    grind[tieL_get]
theorem SameAs.comp {ops ops2 opsF : Array Oper} {σ σ' τ' : Nat → Nat} (s : SameAs ops opsF σ) (od : Ord ops2 ops σ' τ') : SameAs ops2 opsF (σ ∘ σ') := by
  refine ⟨fun p o ho => ?_, fun p o j want ho hg hj => ?_⟩
  · obtain ⟨o1, a1, a2, a3, a4, _⟩ := od.op p o ho
    obtain ⟨o2, b1, b2, b3, b4⟩ := s.op _ o1 a1
    grind
  · obtain ⟨o1, a1, _, _, a4, _⟩ := od.op p o ho
    rcases a4 with ⟨x, _⟩ | ⟨j', w', x, y⟩
    · grind
    · rw [hg] at x; cases x
      refine s.no _ o1 _ want a1 y (Array.getElem?_eq_none ?_)
      have h1 : ¬ j < ops2.size := by grind
      have := mt (od.lt j).2 h1
      rw [← od.size]; omega
theorem swN_swN (k i : Nat) : swN k (swN k i) = i := by
  grind[swN,nbeq_eq]
theorem swN_lt {k n i : Nat} (hk : k + 1 < n) : swN k i < n ↔ i < n := by
  grind[swN,nbeq_eq]
theorem swN_ne {k i : Nat} (h1 : i ≠ k) (h2 : i ≠ k + 1) : swN k i = i := by
  grind[swN,nbeq_eq,decide_eq_false]
theorem swN_k (k : Nat) : swN k k = k + 1 := by unfold swN; simp_all
theorem swN_k1 (k : Nat) : swN k (k + 1) = k := by grind[swN,nbeq_eq,decide_eq_false,Nat.beq_refl]
theorem ord2_get (n k p : Nat) : (ord2 n k)[p]? = if p < n then some (swN k p) else none := by
  grind[ord2,List.getElem?_range,List.getElem?_eq_none]
theorem ord2_mem {n k : Nat} (hk : k + 1 < n) (i : Nat) : i ∈ ord2 n k ↔ i < n := by
  unfold ord2
  simp only [List.mem_map, List.mem_range]
  constructor
  · rintro ⟨a, ha, rfl⟩; exact (swN_lt hk).2 ha
  · intro h; exact ⟨swN k i, (swN_lt hk).2 h, swN_swN k i⟩
theorem ord2_nodup (n k : Nat) : (ord2 n k).Nodup := by
  unfold ord2
  rw [List.nodup_iff_pairwise_ne, List.pairwise_map]
  exact List.nodup_range.imp fun {a b} h e => h (by rw [← swN_swN k a, e, swN_swN])
theorem ord2_len (n k : Nat) : (ord2 n k).length = n := by unfold ord2; simp

/-! ### what the evaluator does -/
theorem evOpsD_sh {E : Env} {R : Rec} {q : Nat} {ops ops' : List Oper} : ∀ (os os' : List Oper) (i : Nat) (l : Loc) (h : Hp) (tr : List (Nat × Tch)), os.map (fun o => (o.op, o.dst)) = os'.map (fun o => (o.op, o.dst)) → (∀ o ∈ os, o.guard = none) → (∀ o ∈ os', o.guard = none) →
    evOpsD E R ops q os i l h tr = evOpsD E R ops' q os' i l h tr
  | [], [], _, _, _, _, _, _, _ => rfl
  | [], _ :: _, _, _, _, _, he, _, _ => by simp at he
  | _ :: _, [], _, _, _, _, he, _, _ => by simp at he
  | o :: os, o' :: os', i, l, h, tr, he, g1, g2 => by
    simp only [List.map_cons, List.cons.injEq, Prod.mk.injEq] at he
    obtain ⟨⟨e1, e2⟩, e3⟩ := he
    have a1 := g1 o List.mem_cons_self
    have a2 := g2 o' List.mem_cons_self
    have ih := fun i l h tr => evOpsD_sh (E := E) (R := R) (q := q) (ops := ops) (ops' := ops') os os' i l h tr e3 (fun o ho => g1 o (List.mem_cons_of_mem _ ho)) (fun o ho => g2 o (List.mem_cons_of_mem _ ho))
    simp only [evOpsD, guardOk, a1, a2, stepD_op e1, e1, e2, ih]
theorem evOpsD_app {E : Env} {R : Rec} {q : Nat} {ops : List Oper} : ∀ (xs ys : List Oper) (i : Nat) (l : Loc) (h : Hp) (tr : List (Nat × Tch)),
    evOpsD E R ops q (xs ++ ys) i l h tr = (evOpsD E R ops q xs i l h tr).bind fun r => evOpsD E R ops q ys (i + xs.length) r.1 r.2.1 r.2.2
  | [], ys, i, l, h, tr => rfl
  | o :: xs, ys, i, l, h, tr => by
    have e : ∀ n, i + 1 + n = i + (n + 1) := fun n => by omega
    simp only [List.cons_append, evOpsD, List.length_cons]
    cases guardOk ops l.regs o with
    | none => rfl
    | some b =>
      cases b with
      | false => simp only []; rw [evOpsD_app xs ys, e]
      | true =>
        simp only []
        cases stepD E R (l.evD (tmpsOf o.op.operands.toList)) (hush E q i o.op) o h with
        | none => rfl
        | some r => obtain ⟨v, h'⟩ := r; simp only []; rw [evOpsD_app xs ys, e]

/-! ### two entries -/
theorem keyEq_int {k : Value} (h : isIntK k = true) : keyEq k k = some true := by
  cases k <;> first | (cases h; done) | skip
  next kd n =>
  have h1 : keqb kd kd = true := by cases kd <;> rfl
  have h2 : ibeq n n = true := by cases n <;> exact Nat.beq_refl _
  simp only [keyEq, h1, h2, cond_true]
theorem mfind_app {k k1 v : Value} {c : Nat} : ∀ {es : List (Value × Value × Nat)}, keyEq k k1 = some false → mfind k (es ++ [(k1, v, c)]) = mfind k es
  | [], h => by simp only [List.nil_append, mfind, h]
  | (k', v', n) :: es, h => by simp only [List.cons_append, mfind, mfind_app h]
theorem mfind_app_eq {k v : Value} {c : Nat} (hk : keyEq k k = some true) : ∀ {es : List (Value × Value × Nat)}, mfind k es = some none → mfind k (es ++ [(k, v, c)]) = some (some (v, c))
  | [], _ => by simp only [List.nil_append, mfind, hk]
  | (k', v', n) :: es, h => by
    simp only [List.cons_append, mfind] at h ⊢
    cases hb : keyEq k k' with
    | none => rw [hb] at h; cases h
    | some b =>
      rw [hb] at h
      cases b with
      | true => cases h
      | false => exact mfind_app_eq hk h
theorem mfind_set {k k1 v : Value} : ∀ {es : List (Value × Value × Nat)}, keyEq k k1 = some false → mfind k (mset k1 v es) = mfind k es
  | [], _ => rfl
  | (k', v', n) :: es, h => by
    unfold mset
    cases hb : keyEq k1 k' with
    | none => simp only [mfind, mfind_set h]
    | some b =>
      cases b with
      | true => have := keyEq_same hb; subst this; simp only [mfind, h]
      | false => simp only [mfind, mfind_set h]
theorem mfind_set_eq {k v : Value} (hk : keyEq k k = some true) : ∀ {es : List (Value × Value × Nat)} {u : Value × Nat}, mfind k es = some (some u) → ∃ n, mfind k (mset k v es) = some (some (v, n))
  | [], _, h => by cases h
  | (k', v', n) :: es, u, h => by
    simp only [mfind] at h
    unfold mset
    cases hb : keyEq k k' with
    | none => grind
    | some b =>
      rw [hb] at h
      cases b with
      | true => exact ⟨n, by simp only [mfind, hk]⟩
      | false =>
        simp_all[mfind_set_eq,mfind]
/-- The map with an entry more. -/
def mput (k v : Value) (es : List (Value × Value × Nat)) (c : Nat) : List (Value × Value × Nat) × Nat := match mfind k es with
  | some (some _) => (mset k v es, c)
  | _ => (es ++ [(k, v, c)], c + 1)
theorem mput_ne {k k1 v : Value} {es : List (Value × Value × Nat)} {c : Nat} (h : keyEq k k1 = some false) : mfind k (mput k1 v es c).1 = mfind k es := by
  grind[mput,mfind_set,mfind_app]
theorem mput_eq {k v : Value} {es : List (Value × Value × Nat)} {c : Nat} (hk : keyEq k k = some true) (h : mfind k es ≠ none) : (mfind k (mput k v es c).1).map (Option.map Prod.fst) = some (some v) := by
  unfold mput
  cases hm : mfind k es with
  | none => grind
  | some u =>
    cases u with
    | none => grind[mfind_app_eq]
    | some u => simp only []; obtain ⟨n, e⟩ := mfind_set_eq (v := v) hk hm; rw [e]; rfl
theorem mapPut_iff {E : Env} {h h' : Hp} {ty : TypeId} {m k v : Value} : mapPut E h ty m k v = some h' ↔ ∃ r es c kt el, m = .map (some r) ∧ E.und ty = some (.map kt el) ∧ keyFits E kt k = true ∧ h.get r = some (.map es c) ∧ mfind k es ≠ none ∧ h' = h.put r (.map (mput k v es c).1 (mput k v es c).2) := by
  unfold mapPut mapAt mput
  grind
theorem Tr.set_set {α : Type} (t : Tr α) (i : Nat) (x y : α) : (t.set i x).set i y = t.set i y := by
  induction t generalizing i with
  | nil => rfl
  | node z l r ihl ihr =>
    rw [Tr.set_node, Tr.set_node]
    cases i with
    | zero => rfl
    | succ n =>
      simp only []
      split
      · simp_all[Tr.set_node,if_true]
      simp_all[Tr.set_node,if_false]
theorem put_put (h : Hp) (b : Nat) (x y : Blk) : (h.put b x).put b y = h.put b y := by
  unfold Hp.put
  simp only [Tr.set_set]
  congr 1
  unfold nmin
  grind
theorem get_put_same {h : Hp} {b : Nat} {x y : Blk} (hg : h.get b = some y) : (h.put b x).get b = some x := by
  rw [Hp.get_put, if_pos ⟨rfl, by rw [hg]; rfl⟩]
/-- Two entries of different keys may be put in any order: what is found is the same. -/
theorem put_swap {E : Env} {h h1 h2 : Hp} {ty : TypeId} {m k1 k2 v1 v2 : Value} (i1 : isIntK k1 = true) (i2 : isIntK k2 = true) (n1 : keyEq k1 k2 = some false) (n2 : keyEq k2 k1 = some false) (e1 : mapPut E h ty m k1 v1 = some h1) (e2 : mapPut E h1 ty m k2 v2 = some h2) :
    ∃ h3 h4 r es c es' c', mapPut E h ty m k2 v2 = some h3 ∧ mapPut E h3 ty m k1 v1 = some h4 ∧ m = .map (some r) ∧ h2.get r = some (.map es c) ∧ h4 = h2.put r (.map es' c') ∧
      ∀ kt el k, E.und ty = some (.map kt el) → keyFits E kt k = true → (mfind k es').map (Option.map Prod.fst) = (mfind k es).map (Option.map Prod.fst) := by
  obtain ⟨r, es, c, kt, el, rfl, hu, hf1, hg, hn1, rfl⟩ := mapPut_iff.1 e1
  obtain ⟨r', es1, c1, kt', el', hr, hu', hf2, hg1, hn2, rfl⟩ := mapPut_iff.1 e2
  cases hr
  rw [hu] at hu'; cases hu'
  rw [get_put_same hg] at hg1
  cases hg1
  rw [mput_ne n2] at hn2
  refine ⟨_, _, r, _, _, (mput k1 v1 (mput k2 v2 es c).1 (mput k2 v2 es c).2).1, (mput k1 v1 (mput k2 v2 es c).1 (mput k2 v2 es c).2).2, mapPut_iff.2 ⟨r, es, c, kt, el, rfl, hu, hf2, hg, hn2, rfl⟩,
    mapPut_iff.2 ⟨r, _, _, kt, el, rfl, hu, hf1, get_put_same hg, by rw [mput_ne n1]; exact hn1, rfl⟩, rfl, get_put_same (get_put_same hg), by rw [put_put, put_put, put_put], ?_⟩
  intro kt' el' k hu' hf
  rw [hu] at hu'; cases hu'
  obtain ⟨b1, hb1⟩ := keyEq_fits hf hf1
  obtain ⟨b2, hb2⟩ := keyEq_fits hf hf2
  cases b1 with
  | true =>
    grind[keyEq_same,mput_eq,keyEq_int,mput_ne]
  | false =>
    cases b2 with
    | true =>
      grind[keyEq_same,mput_ne,mput_eq,keyEq_int]
    | false => grind[mput_ne]
/-- What an entry's operation does. -/
theorem ins_step {E : Env} {R : Rec} {ops os : List Oper} {q i : Nat} {a : Oper} {l : Loc} {h : Hp} {tr : List (Nat × Tch)} {t : Tmp} {ty : TypeId} {k : Value} {x : Operand} (ha : a.op = .insert ty (.tmp t) (.const k) x) (hd : a.dst = none) (hg : a.guard = none) (hk : isIntK k = true) :
    evOpsD E R ops q (a :: os) i l h tr = (mapPut E h ty (l.ev (.tmp t)) k (l.ev x)).bind fun h' => evOpsD E R ops q os (i + 1) l h' (noted i tr (match l.ev (.tmp t) with
      | .map (some r) => some (.blk r)
      | _ => none)) := by
  have o1 : l.evD (tmpsOf a.op.operands.toList) (.tmp t) = l.ev (.tmp t) := by
    grind[Loc.evD,Op.operands,tmpsOf,memb,Nat.beq_refl]
  have o2 : l.evD (tmpsOf a.op.operands.toList) (.const k) = k := by
    unfold Loc.evD Loc.ev
    simp only []
    cases k <;> first | (cases hk; done) | rfl
  have o3 : l.evD (tmpsOf a.op.operands.toList) x = l.ev x := by
    rw [ha]; unfold Loc.evD
    cases x <;> simp [Op.operands, tmpsOf, memb, Nat.beq_refl]
  have hh : hush E q i a.op = false := by unfold hush; rw [ha]; show (q.testBit i && false) = false; simp
  simp only [evOpsD, guardOk, hg, hh, stepD, cond_false]
  rw [show aop E (l.evD (tmpsOf a.op.operands.toList)) h a.op = wrapU (mapPut E h ty (l.ev (.tmp t)) k (l.ev x)) by
    have : ∀ ρ : Operand → Value, aop E ρ h (.insert ty (.tmp t) (.const k) x) = wrapU (mapPut E h ty (ρ (.tmp t)) (ρ (.const k)) (ρ x)) := fun _ => rfl
    grind]
  cases mapPut E h ty (l.ev (.tmp t)) k (l.ev x) with
  | none => rfl
  | some h' =>
    simp only [wrapU, opVal, Option.bind_some, hd]
    congr 1
    congr 1
    unfold noteOf touchA
    have e : ∀ ρ : Operand → Value, touch ρ a.op = (match ρ (.tmp t) with | .map r => r | _ => none) := fun ρ => by rw [ha]; rfl
    rw [show isRun a.op = false by rw [ha]; rfl, show isAlloc a.op = false by rw [ha]; rfl]
    grind
theorem note_read {E : Env} {ρ : Operand → Value} {b : Bool} {op : Op} {h1 h2 h3 h4 : Hp} (hc : cls E op ≤ 1) : noteOf ρ b op h1 h2 = noteOf ρ b op h3 h4 := by
  grind[noteOf,isRun_cls,touchA_cls]
/-- What is behind the entries sees the same. -/
theorem rest_same {E : Env} {R : Rec} {ops : List Oper} {q : Nat} {t : Tmp} {ty : TypeId} {r : Nat} {es es' : List (Value × Value × Nat)} {c c' : Nat} {h2 : Hp} (hg : h2.get r = some (.map es c))
    (hs : ∀ kt el k, E.und ty = some (.map kt el) → keyFits E kt k = true → (mfind k es').map (Option.map Prod.fst) = (mfind k es).map (Option.map Prod.fst)) :
    ∀ (os : List Oper) (i : Nat) (l : Loc) (tr : List (Nat × Tch)) (l' : Loc) (h' : Hp) (tr' : List (Nat × Tch)), (∀ o ∈ os, restOk E ty t o = true ∧ o.guard = none) → evOpsD E R ops q os i l h2 tr = some (l', h', tr') →
      h' = h2 ∧ l'.ev (.tmp t) = l.ev (.tmp t) ∧ evOpsD E R ops q os i l (h2.put r (.map es' c')) tr = some (l', h2.put r (.map es' c'), tr')
  | [], i, l, tr, l', h', tr', _, he => by cases he; exact ⟨rfl, rfl, rfl⟩
  | o :: os, i, l, tr, l', h', tr', ho, he => by
    obtain ⟨hr, hgd⟩ := ho o List.mem_cons_self
    unfold restOk at hr
    simp only [Bool.and_eq_true, Bool.not_eq_true', Bool.or_eq_true] at hr
    have hcl : cls E o.op ≤ 1 := by
      rcases hr.2 with h | h
      · simp_all
      · unfold isLookT at h
        split at h
        · next e => rw [e]; exact Nat.le_refl 1
        · cases h
    obtain ⟨f, f1, f2, _⟩ := shape_op (E := E) (op := o.op) (ρ := l.evD (tmpsOf o.op.operands.toList)) (by omega)
    have hf : ∀ v, f h2 = some v → f (h2.put r (.map es' c')) = some v := by
      intro v hv
      rcases hr.2 with h | h
      · rw [f2 (Nat.eq_of_beq_eq_true h) _ h2]; exact hv
      · unfold isLookT at h
        split at h
        next ty' m k okb e =>
          have := Nat.eq_of_beq_eq_true h
          subst this
          have hl : ∀ h, f h = lookupV E h ty' (l.evD (tmpsOf o.op.operands.toList) m) (l.evD (tmpsOf o.op.operands.toList) k) okb := by
            intro h
            have := f1 h
            rw [e] at this
            rw [e]
            exact wrapR_inj this.symm
          rw [hl] at hv ⊢
          generalize l.evD (tmpsOf o.op.operands.toList) m = mv at hv ⊢
          generalize l.evD (tmpsOf o.op.operands.toList) k = kv at hv ⊢
          unfold lookupV at hv ⊢
          cases hu : E.und ty' with
          | none => grind
          | some d =>
            rw [hu] at hv
            cases d <;> (try (cases hv; done))
            next kt el =>
              simp only [] at hv ⊢
              cases hfit : keyFits E kt kv with
              | false => grind
              | true =>
                rw [hfit] at hv
                simp only [cond_true] at hv ⊢
                grind[get_put_same,mfind,get_put_ne]
        next => cases h
    have hh : hush E q i o.op = false := hush_read hcl
    simp only [evOpsD, guardOk, hgd, hh, stepD, cond_false] at he ⊢
    rw [f1] at he ⊢
    cases hv : f h2 with
    | none => rw [hv] at he; cases he
    | some v =>
      rw [hv] at he
      rw [hf v hv]
      simp only [wrapR, opVal] at he ⊢
      have key := rest_same (c' := c') hg hs os (i + 1) (l.put o.dst v) _ l' h' tr' (fun o ho' => ho o (List.mem_cons_of_mem _ ho')) he
      obtain ⟨k1, k2, k3⟩ := key
      refine ⟨k1, k2.trans ?_, ?_⟩
      · have hne : o.dst ≠ some t := by
          grind[dstIs,Nat.beq_refl]
        grind[Loc.ev,put_regs_other]
      grind[note_read]
/-- The other order. -/
theorem fork_swap {E : Env} {R : Rec} {os : List Oper} {i0 q : Nat} {t : Tmp} (hT : forkT E os i0 = some t) {l l' : Loc} {h h' h2 : Hp} {tr : List (Nat × Tch)} (he : evOpsD E R os q os 0 l h [] = some (l', h', tr)) (hk : killT (some t) l' h' = some h2) :
    i0 + 2 < os.length ∧ (∀ o ∈ os, o.guard = none) ∧ ∀ o2 : List Oper, o2.map (fun o => (o.op, o.dst)) = (ord2 os.length (i0 + 1)).filterMap (fun i => (os[i]?).map fun o => (o.op, o.dst)) → (∀ o ∈ o2, o.guard = none) →
      ∃ h'', evOpsD E R o2 q o2 0 l h [] = some (l', h'', tr) ∧ killT (some t) l' h'' = some h2 := by
  unfold forkT at hT
  split at hT
  next m a b hm ha hb =>
    split at hT
    next t' hd =>
      split at hT
      next ta x tb y hia hib =>
        cases hc : (isMk m.op && (Nat.beq ta tb && (keyNe x y && (keyNe y x && ((os.drop (i0 + 3)).all (restOk E ta t') && os.all fun o => o.guard.isNone))))) with
        | false => grind
        | true =>
          rw [hc] at hT
          simp only [cond_true, Option.some.injEq] at hT
          subst hT
          simp only [Bool.and_eq_true, List.all_eq_true] at hc
          obtain ⟨_, hty, hxy, hyx, hrest, hgu⟩ := hc
          have hty := Nat.eq_of_beq_eq_true hty
          subst hty
          have hgn : ∀ o ∈ os, o.guard = none := fun o ho => by simp_all
          have hlen : i0 + 2 < os.length := (List.getElem?_eq_some_iff.1 hb).1
          refine ⟨hlen, hgn, fun o2 ho2 hg2 => ?_⟩
          -- the parts
          have hsplit : os = os.take (i0 + 1) ++ a :: b :: os.drop (i0 + 3) := by
            grind[List.drop_eq_getElem_cons,List.getElem?_eq_some_iff,List.take_append_drop]
          have ins : ∀ {o : Oper} {ty : TypeId} {k : Value}, insK t' o = some (ty, k) → ∃ z, o.op = .insert ty (.tmp t') (.const k) z ∧ o.dst = none ∧ isIntK k = true := by
            intro o ty k h
            unfold insK at h
            split at h
            next ty' t'' k' z hop =>
              cases hcc : (Nat.beq t'' t' && (o.dst.isNone && isIntK k')) with
              | false => rw [hcc] at h; cases h
              | true =>
                rw [hcc] at h
                cases h
                simp only [Bool.and_eq_true] at hcc
                have := Nat.eq_of_beq_eq_true hcc.1
                subst this
                exact ⟨z, hop, by simpa using hcc.2.1, hcc.2.2⟩
            next => cases h
          obtain ⟨z1, p1, p2, p3⟩ := ins hia
          obtain ⟨z2, r1, r2, r3⟩ := ins hib
          have kne : ∀ {u v : Value}, keyNe u v = true → keyEq u v = some false := by
            intro u v h
            unfold keyNe at h
            split at h
            next bb hbb => grind
            next => cases h
          have hga := hgn a (List.mem_of_getElem? ha)
          have hgb := hgn b (List.mem_of_getElem? hb)
          -- the run
          have he' := he
          rw [show evOpsD E R os q os 0 l h [] = evOpsD E R os q (os.take (i0 + 1) ++ a :: b :: os.drop (i0 + 3)) 0 l h [] by rw [← hsplit]] at he'
          rw [evOpsD_app] at he'
          obtain ⟨⟨l1, h1, tr1⟩, s1, he'⟩ := Option.bind_eq_some_iff.1 he'
          simp only [] at he'
          rw [ins_step p1 p2 hga p3] at he'
          obtain ⟨ha1, s2, he'⟩ := Option.bind_eq_some_iff.1 he'
          rw [ins_step r1 r2 hgb r3] at he'
          obtain ⟨ha2, s3, he'⟩ := Option.bind_eq_some_iff.1 he'
          obtain ⟨h3, h4, r, es, c, es', c', w1, w2, w3, w4, w5, w6⟩ := put_swap p3 r3 (kne hxy) (kne hyx) s2 s3
          obtain ⟨k1, k2, k3⟩ := rest_same (t := t') (es' := es') (c' := c') w4 w6 _ _ _ _ _ _ _ (fun o ho => ⟨hrest o ho, hgn o (List.mem_of_mem_drop ho)⟩) he'
          refine ⟨h4, ?_, ?_⟩
          · -- the other list
            have hsh : o2.map (fun o => (o.op, o.dst)) = (os.take (i0 + 1) ++ b :: a :: os.drop (i0 + 3)).map (fun o => (o.op, o.dst)) := by
              rw [ho2]
              have hget : ∀ p : Nat, ((ord2 os.length (i0 + 1)).filterMap (fun i => (os[i]?).map fun o => (o.op, o.dst)))[p]? = ((os.take (i0 + 1) ++ b :: a :: os.drop (i0 + 3)).map (fun o => (o.op, o.dst)))[p]? := by
                intro p
                have hall : (ord2 os.length (i0 + 1)).filterMap (fun i => (os[i]?).map fun o => (o.op, o.dst)) = (ord2 os.length (i0 + 1)).map (fun i => (os.map (fun o => (o.op, o.dst))).getD i (m.op, m.dst)) := by
                  have key : ∀ (l : List Nat), (∀ i ∈ l, i < os.length) → l.filterMap (fun i => (os[i]?).map fun o => (o.op, o.dst)) = l.map (fun i => (os.map (fun o => (o.op, o.dst))).getD i (m.op, m.dst)) := by
                    intro l
                    induction l with
                    | nil => intro _; rfl
                    | cons x l ih =>
                      intro hx
                      have hx0 := hx x List.mem_cons_self
                      rw [List.map_cons, ← ih (fun i hi => hx i (List.mem_cons_of_mem _ hi))]
                      simp [hx0]
                  exact key _ fun i hi => (ord2_mem (by omega) i).1 hi
                rw [hall, List.getElem?_map, ord2_get, List.getElem?_map]
                by_cases hp : p < os.length
                · rw [if_pos hp]
                  simp only [Option.map_some]
                  rcases Nat.lt_trichotomy p (i0 + 1) with hq | hq | hq
                  · rw [swN_ne (by omega) (by omega), List.getElem?_append_left (by grind), List.getElem?_take, if_pos hq]
                    simp [hp]
                  · subst hq
                    rw [swN_k, List.getElem?_append_right (by grind), List.length_take, Nat.min_eq_left (by omega), Nat.sub_self]
                    simp [hb]
                  · by_cases hq2 : p = i0 + 2
                    · subst hq2
                      rw [swN_k1, List.getElem?_append_right (by grind), List.length_take, Nat.min_eq_left (by omega), show i0 + 2 - (i0 + 1) = 1 by omega]
                      simp [ha]
                    · rw [swN_ne (by omega) (by omega), List.getElem?_append_right (by grind), List.length_take, Nat.min_eq_left (by omega)]
                      obtain ⟨d, rfl⟩ : ∃ d, p = i0 + 3 + d := ⟨p - (i0 + 3), by omega⟩
                      rw [show i0 + 3 + d - (i0 + 1) = d + 2 by omega, List.getElem?_cons_succ, List.getElem?_cons_succ, List.getElem?_drop]
                      simp [hp]
                grind
              exact List.ext_getElem? hget
            rw [evOpsD_sh (ops' := os) o2 _ _ _ _ _ hsh hg2 (fun o ho => by
              grind)]
            grind[evOpsD_app,ins_step]
          grind[killT,get_put_same,put_put]
      next => cases hT
    next => cases hT
  next => cases hT

/-! ### the model -/
theorem tieL_sh (os : List Oper) (k : Nat) : (tieL os k).map (fun o => (o.op, o.dst)) = os.map (fun o => (o.op, o.dst)) := by
  refine List.ext_getElem? fun i => ?_
  grind[tieL_get,tie_same]
theorem tieL_guard {os : List Oper} {k : Nat} (h : ∀ o ∈ os, o.guard = none) : ∀ o ∈ tieL os k, o.guard = none := by
  intro o ho
  obtain ⟨i, hi⟩ := List.getElem?_of_mem ho
  rw [tieL_get] at hi
  obtain ⟨o', h1, rfl⟩ := Option.map_eq_some_iff.1 hi
  grind[tie_same,List.mem_of_getElem?]
theorem pickL_sh (os : List Oper) (ord : List Nat) : ∀ (l : List Nat), (pickL os ord l).map (fun o => (o.op, o.dst)) = l.filterMap fun i => (os[i]?).map fun o => (o.op, o.dst)
  | [] => rfl
  | i :: l => by
    unfold pickL
    rw [List.filterMap_cons]
    cases os[i]? with
    | none => exact pickL_sh os ord l
    | some o => simp only [List.map_cons, Option.map_some, pickL_sh os ord l]; rfl
theorem pickL_guard {os : List Oper} {ord : List Nat} (h : ∀ o ∈ os, o.guard = none) : ∀ (l : List Nat), ∀ o ∈ pickL os ord l, o.guard = none
  | [], o, ho => by cases ho
  | i :: l, o, ho => by
    unfold pickL at ho
    cases hi : os[i]? with
    | none => rw [hi] at ho; exact pickL_guard h l o ho
    | some o' =>
      rw [hi] at ho
      rcases List.mem_cons.1 ho with rfl | ho
      · grind[List.mem_of_getElem?,reix]
      · exact pickL_guard h l o ho
theorem pairs_app {tr : List (Nat × Tch)} : ∀ {ps ps' : List (Nat × Nat)}, pairsOk tr (ps ++ ps') = true → pairsOk tr ps = true ∧ pairsOk tr ps' = true
  | [], _, h => ⟨rfl, h⟩
  | (i, j) :: ps, ps', h => by
    simp only [List.cons_append, pairsOk, Bool.and_eq_true] at h ⊢
    obtain ⟨a, b⟩ := pairs_app h.2
    exact ⟨⟨h.1, a⟩, b⟩
section
variable {E : Env} {P : Program} (ok : EOk E P) {R : Rec} (hc : CallOk E P R.call) (hcode : CodeOk P R.code)
/-- A map dies. -/
theorem kill_sim {cx : Cx} {l : Loc} {h h2 : Hp} {mu : Mu} {w : World} {F : FC} {cs0 : List Frame} {tmps : Array Value} {dfs : List Deferred} {rcC : Option (Value × Bool)} {t : Tmp} (s : SR P cx l h mu w F cs0 tmps dfs rcC) (hk : killT (some t) l h = some h2) :
    ∃ mu', SR P cx l h2 mu' w F cs0 tmps dfs rcC ∧ Ext mu h w mu' h2 w := by
  unfold killT at hk
  simp only [] at hk
  split at hk
  next b hb =>
    split at hk
    next es c hg =>
      cases hk
      have hv : ∃ v', VRel mu (.map (some b)) v' := by
        unfold Loc.ev at hb
        simp only [] at hb
        cases hr : l.regs.get t with
        | none => grind
        | some v => rw [hr] at hb; simp only [] at hb; subst hb; obtain ⟨v', _, x⟩ := s.regs.get t _ hr; grind
      obtain ⟨v', hv⟩ := hv
      cases hv with
      | map hp =>
        unfold PRel at hp
        cases hm : mu b with
        | none => grind
        | dead => have := s.hr.dead b hm; grind
        | blk c0 base top =>
          obtain ⟨x, o, h1, h2, h3⟩ := s.hr.blk b c0 base top hm
          obtain ⟨a1, a2⟩ := hrel_kill s.hr hm (by grind) (⟨rfl, h2, fun _ _ => rfl, rfl, rfl, rfl⟩ : WSet w w c0 o)
          refine ⟨_, s.step a1 (fun b' _ => ?_), a2⟩
          grind[upd_same,upd_other]
    next => cases hk
  next => cases hk

include ok hc hcode in
theorem forkD_sim (cx : Cx) (id : Nat) (ops : Array Oper) (l : Loc) (h : Hp) (l' : Loc) (h' : Hp) (x : Ex) (hl : forkD E R ops.toList l h = some (x, l', h')) (mu : Mu) (w : World) (F : FC) (cs0 : List Frame) (tmps : Array Value) (dfs : List Deferred) (rcC : Option (Value × Bool)) (k : List Item) (s : SR P cx l h mu w F cs0 tmps dfs rcC) :
    Sim P cx h mu w F cs0 tmps dfs rcC (.code (.region id ops true) :: k) k x l' h' := by
  unfold forkD at hl
  cases hp : forkP E (hoist ops.toList) with
  | none => grind
  | some qp =>
  obtain ⟨q, ps⟩ := qp
  rw [hp] at hl
  simp only [] at hl
  cases he : evOpsD E R (hoist ops.toList) q (hoist ops.toList) 0 l h [] with
  | none => grind
  | some r3 =>
  obtain ⟨l1, h1, tr⟩ := r3
  rw [he] at hl
  simp only [] at hl
  cases hpo : pairsOk tr ps with
  | false => grind
  | true =>
  rw [hpo] at hl
  simp only [cond_true] at hl
  obtain ⟨opsC, σ, τ, hC, od⟩ := hoist_ord ops
  rw [← hC] at hp he hl
  unfold forkP at hp
  split at hp
  next t ms q1 ps1 q2 ps2 hT hB hp1 hp2 =>
    cases hqq : Nat.beq q1 q2 with
    | false => grind
    | true =>
    rw [hqq] at hp
    cases hp
    have hq12 := Nat.eq_of_beq_eq_true hqq
    subst hq12
    rw [hT] at hl
    cases hk : killT (some t) l1 h1 with
    | none => grind
    | some h2 =>
    rw [hk] at hl
    cases hl
    obtain ⟨hlen, hgn, hsw⟩ := fork_swap hT he hk
    obtain ⟨po1, po2⟩ := pairs_app hpo
    obtain ⟨_, _, g3⟩ := befs_ok _ _ _ hB
    simp only [List.length_nil, Nat.zero_add] at g3
    have hbef : ∀ i, BefOk opsC.toList ms.reverse i := fun i o ho => g3 i o ho
    generalize hi0 : mkPos opsC.toList = i0 at *
    have hn : opsC.toList.length = opsC.size := by simp
    rw [hn] at hlen
    have hsched : Region.schedule (P.follows .mixedOrders) ops (w.tape w.drawn (.order F.fn id)) = Region.linearise.go .any ops ops.size (w.tape w.drawn (.order F.fn id)) (Array.replicate ops.size false) [] := by
      rw [ok.mixed]; rfl
    have hlS : (fun p => listedS (Array.replicate ops.size false) (σ p)) = fun _ => false := by
      funext i
      simp only [listedS, Array.getD_eq_getD_getElem?, Array.getElem?_replicate]
      split <;> rfl
    have hg := lin_good od hbef ops.size (w.tape w.drawn (.order F.fn id)) (Array.replicate ops.size false) (by simp [od.size]) (by rw [hlS, ← od.size]; exact lackN_none _)
    rw [hlS] at hg
    generalize hlin : Region.linearise.go .any ops ops.size (w.tape w.drawn (.order F.fn id)) (Array.replicate ops.size false) [] = lin at *
    have back : (lin.map τ).map σ = lin := by rw [List.map_map, show (σ ∘ τ) = fun i => i from funext od.st]; simp_all
    have out : ∀ (hx : Hp), killT (some t) l' hx = some h' → (∃ mu' w' tmps', SR P cx l' hx mu' w' F cs0 tmps' dfs rcC ∧ Ext mu h w mu' hx w' ∧
        Steps P (lone (F.mk' tmps dfs (.inRegion ops (lin ++ []) :: k)) (callersOf rcC cs0) { w with drawn := w.drawn + 1 }) (lone (F.mk' tmps' dfs (.inRegion ops [] :: k)) (callersOf rcC cs0) w')) →
        Sim P cx h mu w F cs0 tmps dfs rcC (.code (.region id ops true) :: k) k .normal l' h' := by
      rintro hx hkx ⟨mu', w', tmps', s', e', st⟩
      obtain ⟨mu2, s2, e2⟩ := kill_sim s' hkx
      rw [List.append_nil] at st
      refine ⟨mu2, w', tmps', dfs, rcC, s2, Ext.trans e' e2, Steps.trans (.one ?_) (Steps.trans st (.one st_region_end))⟩
      grind[st_region_draw]
    have hmem : i0 + 1 ∈ lin.map τ := good_mem (by omega) hg rfl
    rcases befL_or (y := i0 + 1 + 1) hmem with hb | hb
    · refine out h1 hk ?_
      have r := draw_list ok hc hcode cx (tieL opsC.toList (i0 + 1)).toArray ops (od.same.tie (i0 + 1)) _ (good_tie hg (.inr hb)) [] l h l' h1 q ps1 tr hp1
        (by rw [← he]; exact evOpsD_sh _ _ _ _ _ _ (tieL_sh _ _) (tieL_guard hgn) hgn) po1 mu w F cs0 tmps dfs rcC k s
      simp_all
    · have hk1 : i0 + 1 + 1 < opsC.toList.length := by rw [hn]; omega
      have hnd := ord2_nodup opsC.toList.length (i0 + 1)
      have od2 := pick_ord opsC (ord2 opsC.toList.length (i0 + 1)) (ord2_mem hk1) hnd (ord2_len _ _) (List.all_eq_true.2 fun o ho => by unfold guardIn; rw [hgn o ho])
      have pa : posOf (i0 + 1) (ord2 opsC.toList.length (i0 + 1)) = i0 + 1 + 1 := posOf_at hnd (by rw [ord2_get, if_pos hk1, swN_k1])
      have pb : posOf (i0 + 1 + 1) (ord2 opsC.toList.length (i0 + 1)) = i0 + 1 := posOf_at hnd (by rw [ord2_get, if_pos (by omega), swN_k])
      obtain ⟨h3, e3, k3⟩ := hsw (tieL (pickL opsC.toList (ord2 opsC.toList.length (i0 + 1)) (ord2 opsC.toList.length (i0 + 1))) (i0 + 1)) (by rw [tieL_sh, pickL_sh]) (tieL_guard (pickL_guard hgn _))
      refine out h3 k3 ?_
      have g2 := good_ord od2 hbef hg
      generalize hσ2 : (fun (p : Nat) => ((ord2 opsC.toList.length (i0 + 1))[p]?).getD p) = σ2 at *
      generalize hτ2 : (fun (i : Nat) => if i < opsC.size then posOf i (ord2 opsC.toList.length (i0 + 1)) else i) = τ2 at *
      have ta : τ2 (i0 + 1) = i0 + 1 + 1 := by grind
      have tb : τ2 (i0 + 1 + 1) = i0 + 1 := by grind
      have hb2 := befL_map (f := τ2) (fun p e => by rw [← od2.st p, e, od2.st]) hb
      rw [ta, tb] at hb2
      have r := draw_list ok hc hcode cx (tieL (pickL opsC.toList (ord2 opsC.toList.length (i0 + 1)) (ord2 opsC.toList.length (i0 + 1))) (i0 + 1)).toArray ops ((od.same.comp od2).tie (i0 + 1)) _ (good_tie g2 (.inr hb2)) [] l h l' h3 q ps2 tr hp2 e3 po2 mu w F cs0 tmps dfs rcC k s
      have back2 : ((lin.map τ).map τ2).map (σ ∘ σ2) = lin := by
        rw [List.map_map, show ((σ ∘ σ2) ∘ τ2) = σ from funext fun i => by show σ (σ2 (τ2 i)) = σ i; rw [od2.st]]
        exact back
      simp_all
  next => cases hp
end
end Go.Ab

/- Drawn orders: a call that may panic, beside what only reads. -/
namespace Go.Ab

/-- The first ones of an order that the edges allow. -/
def GoodP (ops : Array Oper) : (Nat → Bool) → List Nat → Prop
  | _, [] => True
  | S, p :: ls => p < ops.size ∧ S p = false ∧ (∀ o, ops[p]? = some o → Ready o S) ∧ GoodP ops (addS S p) ls
def addL (S : Nat → Bool) : List Nat → Nat → Bool
  | [] => S
  | p :: ls => addL (addS S p) ls

theorem down_add0 {ops : Array Oper} {M : List Nat} (hb : ∀ i, BefOk ops.toList M i) {S : Nat → Bool} (hd : Down ops S) {p : Nat} {o : Oper} (ho : ops[p]? = some o) (hr : Ready o S) : Down ops (addS S p) := by
  intro i oi hoi hs e he hbe
  by_cases hip : i = p
  · subst hip
    rw [ho] at hoi; cases hoi
    obtain ⟨m, _, h2, _⟩ := hb i o (by grind)
    have := h2 e he hbe
    rw [addS_other S (by omega)]
    exact hr e he hbe
  · rw [addS_other S hip] at hs
    have := hd i oi hoi hs e he hbe
    grind[addS_same,addS_other]

/-- An order leads to the call over what is not bound behind it. -/
theorem mid_cut {ops : Array Oper} {n : Nat} {M : List Nat} (hb : ∀ i, BefOk ops.toList M i) (hn : n < ops.size) (late : ∀ (i : Nat) m, n < i → i < ops.size → M[i]? = some m → m.testBit n = true) :
    ∀ (ls : List Nat) (S : Nat → Bool), GoodL ops S ls → Down ops S → S n = false → (∀ p, S p = true → p < n) →
      ∃ l1 l2, ls = l1 ++ n :: l2 ∧ GoodP (ops.extract 0 n) S l1 ∧ (∀ o, ops[n]? = some o → Ready o (addL S l1)) ∧ Down ops (addL S l1)
  | [], S, hg, _, hs, _ => by
    have := hg n hn
    rw [hs] at this; cases this
  | p :: r, S, hg, hd, hs, hlt => by
    obtain ⟨h1, h2, h3, h4⟩ := hg
    have ho : ops[p]? = some ops[p] := Array.getElem?_eq_getElem h1
    rcases Nat.lt_trichotomy p n with hp | hp | hp
    · obtain ⟨l1, l2, e, g1, g2, g3⟩ := mid_cut hb hn late r (addS S p) h4 (down_add0 hb hd ho (h3 _ ho)) (by rw [addS_other S (by omega)]; exact hs) (fun x hx => by
        by_cases e : x = p
        · omega
        · rw [addS_other S e] at hx; exact hlt x hx)
      refine ⟨p :: l1, l2, by rw [e]; rfl, ⟨by simp; omega, h2, fun o hop => h3 o ?_, g1⟩, g2, g3⟩
      rw [← hop]; grind
    · subst hp
      exact ⟨[], r, rfl, trivial, h3, hd⟩
    · exfalso
      obtain ⟨m, hm, _⟩ := hb p _ (by rw [Array.getElem?_toList]; exact ho)
      have := bef_bit (N := ops.size) hb (S := S) (fun i o _ hoi hsi e he hbe => hd i o hoi hsi e he hbe) p _ m n (by omega) ho hm (h3 _ ho) (late p m hp h1 hm)
      rw [hs] at this; cases this

theorem panL_keep : ∀ (os : List Oper) (l : Loc), (panL os l).dfs = l.dfs ∧ (panL os l).rc = l.rc
  | [], _ => ⟨rfl, rfl⟩
  | o :: os, l => by
    have h1 := panL_keep os (l.put o.dst poison)
    have h2 := put_dfs l o.dst poison
    exact ⟨h1.1.trans h2.1, h1.2.trans h2.2⟩
theorem panL_regs {n : Nat} : ∀ (os : List Oper) (l : Loc), l.regs.Sized n → (panL os l).regs.Sized n ∧ ∀ t v, (panL os l).regs.get t = some v → v = poison ∨ ((∀ o ∈ os, o.dst ≠ some t) ∧ l.regs.get t = some v)
  | [], l, hs => ⟨hs, fun t v hv => .inr ⟨fun o ho => (by cases ho), hv⟩⟩
  | o :: os, l, hs => by
    have hs2 : (l.put o.dst poison).regs.Sized n := by
      cases hd : o.dst with
      | none => exact hs
      | some d => exact Tr.sized_set d poison hs
    obtain ⟨h1, h2⟩ := panL_regs os (l.put o.dst poison) hs2
    refine ⟨h1, fun t v hv => ?_⟩
    rcases h2 t v hv with e | ⟨e1, e2⟩
    · exact .inl e
    · by_cases hd : o.dst = some t
      · left
        rw [hd] at e2
        have e2' : (l.regs.set t poison).get t = some v := e2
        rw [Tr.get_set] at e2'
        grind
      · rw [put_regs_other hd] at e2
        exact .inr ⟨fun x hx => by
          rcases List.mem_cons.1 hx with rfl | hx
          · exact hd
          · exact e1 x hx, e2⟩

theorem reads_names {ops ops' : List Oper} {o : Oper} (hg : o.guard = none) : namesOf ops o = namesOf ops' o := by
  unfold namesOf; rw [hg]
theorem reads_apart {ops ops' : List Oper} {o p : Oper} (h1 : o.guard = none) (h2 : p.guard = none) : apartT ops o p = apartT ops' o p := by
  unfold apartT; rw [reads_names h1 (ops' := ops'), reads_names h2 (ops' := ops')]

section
variable {E : Env} {P : Program} (ok : EOk E P) {R : Rec} (hc : CallOk E P R.call) (hcode : CodeOk P R.code)
section
variable {ops : Array Oper} {q : Nat} {ps : List (Nat × Nat)} {M : List Nat} {L : Nat → Loc} {H : Nat → Hp} {T : Nat → Option Nat} {X : Nat → Bool} (D : DT E R ops q ps M L H T X)
variable {nr : Nat} {mu0 : Mu} {w0 : World}
include ok hc hcode D in
/-- The model follows the first ones of an order. -/
theorem go_part (turn : ∀ j o, j < ops.size → ops[j]? = some o → Turn ops E X q H T j o) (shd : ∀ i, i ≤ ops.size → Shadow nr mu0 w0 L H i) (lt0 : ∀ b, mu0 b ≠ .none → b < (H 0).n) (clt0 : ∀ b c base top, mu0 b = .blk c base top → c < w0.heap.size)
    {opsF : Array Oper} {σ : Nat → Nat} (sm : SameAs ops opsF σ) {tl : List Nat} {F : FC} {dfs : List Deferred} {k : List Item} {cs : List Frame} : ∀ (ls : List Nat) (S : Nat → Bool) (mu : Mu) (w : World) (tmps : Array Value), GoodP ops S ls → Down ops S →
      Inv E ops q L H X nr mu0 w0 S mu w tmps →
      ∃ mu' w' tmps', Inv E ops q L H X nr mu0 w0 (addL S ls) mu' w' tmps' ∧
        Steps P (lone (F.mk' tmps dfs (.inRegion opsF (ls.map σ ++ tl) :: k)) cs w) (lone (F.mk' tmps' dfs (.inRegion opsF tl :: k)) cs w')
  | [], S, mu, w, tmps, hg, hd, inv => ⟨mu, w, tmps, inv, Steps.refl _ _⟩
  | p :: ls, S, mu, w, tmps, hg, hd, inv => by
    obtain ⟨h1, h2, h3, h4⟩ := hg
    have ho : ops[p]? = some ops[p] := Array.getElem?_eq_getElem h1
    have hr := h3 _ ho
    obtain ⟨mu1, w1, tmps1, inv1, st1⟩ := inv_step ok hc hcode D turn shd lt0 clt0 sm inv hd ho hr h2 (F := F) (dfs := dfs) (k := k) (cs := cs) (rest := ls.map σ ++ tl)
    obtain ⟨mu', w', tmps', g1, g3⟩ := go_part turn shd lt0 clt0 sm ls _ mu1 w1 tmps1 h4 (down_add D hd ho hr) inv1
    exact ⟨mu', w', tmps', g1, Steps.trans st1 g3⟩
end

include ok hc hcode in
/-- Whatever was read ahead of it, the call panics alike. -/
theorem mid_pan (cx : Cx) (ops opsF : Array Oper) {σ : Nat → Nat} (sm : SameAs ops opsF σ) (ls : List Nat) (hg : GoodL ops (fun _ => false) ls) (n : Nat) (c : Oper) (hcn : ops[n]? = some c)
    (hpre : ∀ (i : Nat) o, i < n → ops[i]? = some o → cls E o.op ≤ 1 ∧ o.guard = none) (hcg : c.guard = none) (q : Nat) (ps : List (Nat × Nat)) (hp : plan E ops.toList = some (q, ps)) (hlate : ∀ i, n < i → i < ops.size → behD ops.toList n i = true)
    (l : Loc) (h : Hp) (l1 : Loc) (h1 : Hp) (tr1 : List (Nat × Tch)) (he : evOpsD E R ops.toList q (ops.toList.take n) 0 l h [] = some (l1, h1, tr1))
    (v : Value) (h' : Hp) (hv : opVal E R (aop E (l1.evD (tmpsOf c.op.operands.toList)) h1 c.op) = some (.pan v, h'))
    (mu : Mu) (w : World) (F : FC) (cs0 : List Frame) (tmps : Array Value) (dfs : List Deferred) (rcC : Option (Value × Bool)) (k : List Item) (s : SR P cx l h mu w F cs0 tmps dfs rcC) :
    ∃ mu' w' tmps' v' todo, SR P cx (panL ops.toList l) h' mu' w' F cs0 tmps' dfs rcC ∧ Ext mu h w mu' h' w' ∧ VRel mu' v v' ∧
      Steps P (lone (F.mk' tmps dfs (.inRegion opsF (ls.map σ) :: k)) (callersOf rcC cs0) { w with drawn := w.drawn + 1 })
        (lone { F.mk' tmps' dfs todo with mode := .panicking [{ v := v', recovered := false }] } (callersOf rcC cs0) w') := by
  have hns : n < ops.size := (Array.getElem?_eq_some_iff.1 hcn).1
  -- the plan
  have hp0 := hp
  unfold plan at hp0
  split at hp0
  next => cases hp0
  next ms hms =>
  obtain ⟨_, _, f3⟩ := befs_ok _ _ _ hms
  obtain ⟨_, _, g3⟩ := owedAll_ok _ _ _ _ _ _ _ hp0
  generalize hM : ms.reverse = M at *
  have hbef : ∀ i, BefOk ops.toList M i := fun i o ho => by simp_all
  have howe : ∀ (j : Nat) o m (i : Nat) p, ops[j]? = some o → M[j]? = some m → i < j → ops[i]? = some p → m.testBit i = false → apartT ops.toList o p = true := by
    intro j o m i p ho hm hi hpi hb
    obtain ⟨_, m', h1', h2'⟩ := g3 j o (by grind)
    rw [hm] at h1'; cases h1'
    exact (h2' i p (by omega) (by grind) hb).1
  -- the part ahead
  have hAs : (ops.extract 0 n).size = n := by simp; omega
  have hAt : (ops.extract 0 n).toList = ops.toList.take n := by simp
  have hAg : ∀ i o, (ops.extract 0 n)[i]? = some o → i < n ∧ ops[i]? = some o := by
    intro i o ho
    have hi : i < n := by
      have := (Array.getElem?_eq_some_iff.1 ho).1
      omega
    exact ⟨hi, by rw [← ho]; grind⟩
  have he2 : evOpsD E R (ops.extract 0 n).toList q (ops.extract 0 n).toList 0 l h [] = some (l1, h1, tr1) := by
    rw [← he, hAt]
    exact evOpsD_sh _ _ _ _ _ _ rfl (fun o ho => by
      rw [← hAt] at ho
      obtain ⟨i, hi⟩ := List.getElem?_of_mem ho
      rw [Array.getElem?_toList] at hi
      obtain ⟨a, b⟩ := hAg i o hi
      exact (hpre i o a b).2) (fun o ho => by
      rw [← hAt] at ho
      obtain ⟨i, hi⟩ := List.getElem?_of_mem ho
      rw [Array.getElem?_toList] at hi
      obtain ⟨a, b⟩ := hAg i o hi
      exact (hpre i o a b).2)
  obtain ⟨l1', l2', els, g1, g2, g4⟩ := mid_cut hbef hns (fun i m h1' h2' hm => by
    have := hlate i h1' h2'
    unfold behD at this
    rw [hms] at this
    simp only [hM, hm] at this
    exact this) ls (fun _ => false) hg (fun i o _ hs => by cases hs) rfl (fun p hs => by cases hs)
  generalize hA : ops.extract 0 n = A at *
  obtain ⟨_, L, H, T, X, hL0, hH0, hLn, hHn, hstep, htr, hrun⟩ := trace_ok _ _ _ _ _ _ _ _ he2
  rw [Nat.zero_add, Array.length_toList, hAs] at hLn hHn
  have D : DT E R A q [] M L H T X := by
    refine ⟨fun i o ho => ?_, fun i o ho h4 => ?_, fun j o m i p ho hm hi hpi hb => ?_, fun i o ho => ?_, fun {i j a b o p} hij => ?_, fun {i j a o p} hij => ?_⟩
    · obtain ⟨a, b⟩ := hAg i o (by simpa using ho)
      exact hbef i o (by simpa using b)
    · obtain ⟨a, b⟩ := hAg i o ho
      have := (hpre i o a b).1
      omega
    · obtain ⟨a, b⟩ := hAg j o ho
      obtain ⟨a2, b2⟩ := hAg i p hpi
      have h1' := hpre j o a b
      have h2' := hpre i p a2 b2
      refine ⟨by rw [reads_apart h1'.2 h2'.2 (ops' := ops.toList)]; exact howe j o m i p b hm hi b2 hb, ?_⟩
      have := h1'.1
      have := h2'.1
      omega
    · have := hstep i o (by simpa using ho)
      rw [Nat.zero_add] at this
      exact this
    · cases hij
    · rcases hij with hij | hij <;> cases hij
  let w0 : World := { w with drawn := w.drawn + 1 }
  have hr0 : HRel mu h w0 := hrel_drew s.hr rfl
  have e0 : Ext mu h w mu h w0 := ext_drew s.hr rfl rfl rfl rfl
  have sh0 : Shadow cx.nr mu w0 L H 0 := ⟨mu, w0, tmps, by grind, s.glob, by rw [hL0]; exact s.regs, by rw [hH0]; exact Ext.refl mu h w0 hr0⟩
  have shd : ∀ i, i ≤ A.size → Shadow cx.nr mu w0 L H i := fun i hi => (shadow ok hc hcode D i hi sh0).1
  have turn : ∀ j o, j < A.size → A[j]? = some o → Turn A E X q H T j o := fun j o hj ho => (shadow ok hc hcode D A.size (Nat.le_refl _) sh0).2 j o hj ho
  have lt0 : ∀ b, mu b ≠ .none → b < (H 0).n := by rw [hH0]; exact s.hr.lt
  have clt0 : ∀ b c base top, mu b = .blk c base top → c < w0.heap.size := fun b c base top hm => hr0.clt hm
  -- the heap stands
  have hstill : ∀ i, i ≤ A.size → H i = h := by
    intro i
    induction i with
    | zero => intro _; exact hH0
    | succ i ih =>
      intro hi
      have hoi : A[i]? = some A[i] := Array.getElem?_eq_getElem (by omega)
      obtain ⟨a, b⟩ := hAg i _ hoi
      exact ((turn i _ (by omega) hoi).still (.inr (hpre i _ a b).1)).trans (ih (by omega))
  have hh1 : h1 = h := by rw [← hHn]; exact hstill n (by omega)
  subst hh1
  have noW : ∀ (i : Nat) o, A[i]? = some o → ¬ isW E X q o i := by
    intro i o ho hw
    obtain ⟨a, b⟩ := hAg i o ho
    have := (hpre i o a b).1
    have := hw.2
    omega
  have sm2 : SameAs A opsF σ := by
    refine ⟨fun p o ho => ?_, fun p o j want ho hgd => ?_⟩
    · obtain ⟨a, b⟩ := hAg p o ho
      exact sm.op p o b
    · obtain ⟨a, b⟩ := hAg p o ho
      rw [(hpre p o a b).2] at hgd; cases hgd
  have inv0 : Inv E A q L H X cx.nr mu w0 (fun _ => false) mu w0 tmps := by
    refine ⟨⟨A.size, ⟨Nat.le_refl _, .inl rfl, fun i o hi ho hw => absurd hw (noW i o ho)⟩, by rw [hstill _ (Nat.le_refl _)]; exact hr0⟩, s.glob, fun p hpp _ b h1 h2 => ?_, s.regs.size, fun i hi t v hcond hv => ?_, by rw [hH0]; exact WExt.refl hr0, fun p _ hs => by cases hs⟩
    · rw [hstill p (by omega)] at h1; rw [hstill (p + 1) (by omega)] at h2; omega
    · have hwalk : (L (0 + i)).regs.get t = (L 0).regs.get t := by
        refine walk_eq (fun j => (L j).regs.get t) (a := 0) i (fun j h1 h2 => ?_)
        have hoj : A[j]? = some A[j] := Array.getElem?_eq_getElem (by omega)
        grind[regs_other]
      rw [Nat.zero_add] at hwalk
      rw [hwalk, hL0] at hv
      exact s.regs.get t v hv
  obtain ⟨mu1, w1, tmps1, inv1, st1⟩ := go_part ok hc hcode D turn shd lt0 clt0 sm2 (tl := σ n :: l2'.map σ) (F := F) (dfs := dfs) (k := k) (cs := callersOf rcC cs0) l1' _ mu w0 tmps g1 (fun i o _ hs => by cases hs) inv0
  generalize addL (fun _ => false) l1' = S at *
  obtain ⟨c', hC, hh⟩ := inv1.c
  rw [hstill c' hC.1] at hh
  -- the call's own temporaries
  obtain ⟨muT, wT, tmpsT, t1, t2, t3, t4⟩ := shd n (by omega)
  rw [hLn] at t3
  obtain ⟨mc, hmc, _⟩ := hbef n c (by simpa using hcn)
  have hnames : ∀ t ∈ namesOf ops.toList c, ∀ u, l1.regs.get t = some u → ∃ u', tmps1[t]? = some u' ∧ VRel mu1 u u' := by
    intro t ht u hu
    refine inv1.regs n (by omega) t u (fun p o hop hod => ⟨fun hpn => ?_, fun _ => (hAg p o hop).1⟩) (by rw [hLn]; exact hu)
    cases hb : mc.testBit p with
    | true => exact bef_bit (N := ops.size) hbef (fun i o _ hoi hsi e he hbe => g4 i o hoi hsi e he hbe) n c mc p (by omega) hcn hmc (g2 c hcn) hb
    | false =>
      exfalso
      have ha := howe n c mc p o hcn hmc hpn (hAg p o hop).2 hb
      simp only [apartT, hod, Bool.and_eq_true, Bool.not_eq_true'] at ha
      have := (memb_iff t _).2 ht
      rw [ha.2] at this; cases this
  have hρ : ∀ x, VRel mu1 (l1.evD (tmpsOf c.op.operands.toList) x) (evalC tmps1 x) :=
    fun x => evD_rel t3.sized inv1.size _ (fun t ht u hu => hnames t (by
      unfold namesOf
      have : Operand.tmp t ∈ c.op.operands.toList := (mem_tmpsOf t _).1 ht
      grind) u hu) inv1.glob x
  obtain ⟨oM, hoM, e1, e2, e3⟩ := sm.op n c hcn
  have hwant : Region.wanted oM (yielded opsF tmps1) = true := by
    rcases e3 with ⟨_, e3⟩ | ⟨j, want, e3, _⟩
    · unfold Region.wanted; rw [e3]
    · rw [hcg] at e3; cases e3
  obtain ⟨mu2, w2, k1, k2, v', k3, k4⟩ := opVal_sim ok hc hcode hh inv1.glob hρ (F := F) (dfs := dfs) (k := k) (cs := callersOf rcC cs0) (rest := l2'.map σ) hoM hwant (out := .pan v) (h' := h') (by rw [e1]; exact hv)
  have W := inv1.ext
  rw [hH0] at W
  rw [hstill n (by omega)] at t4
  rw [hH0] at t4
  have ext : Ext mu h1 w0 mu1 h1 w1 := by
    refine ⟨Nat.le_refl _, W.old, W.fresh, Nat.le_refl _, fun b _ _ => rfl, W.frame, fun b c base top t sz el hm hg => ?_, W.wsize, W.os, W.tape, W.output, fun b h1 h2 => by omega⟩
    obtain ⟨x, y⟩ := W.ro b c base top t sz el hm hg
    exact ⟨x, rfl, y⟩
  have le : Le mu mu1 := ext.le hr0
  have le2 : Le mu1 mu2 := k2.le hh
  obtain ⟨p1, p2⟩ := panL_regs (n := cx.nr) ops.toList l s.regs.sized
  obtain ⟨p3, p4⟩ := panL_keep ops.toList l
  refine ⟨mu2, w2, tmps1, v', _, ⟨k1, inv1.glob.mono le2, ⟨inv1.size, p1, fun t u hu => ?_⟩, ?_, ?_, s.ko, s.fn, s.rd.mono (le.trans le2), s.rn, s.fs⟩, Ext.trans e0 (Ext.trans ext k2), k3, Steps.trans ?_ k4⟩
  · rcases p2 t u hu with rfl | ⟨q1, q2⟩
    · have : t < cx.nr := (p1 t).1 (by rw [hu]; rfl)
      have hlt : t < tmps1.size := by rw [inv1.size]; exact this
      exact ⟨tmps1[t], Array.getElem?_eq_getElem hlt, .poison _⟩
    · obtain ⟨u', h1', h2'⟩ := inv1.regs 0 (Nat.zero_le _) t u (fun p o hop hod => by
        obtain ⟨a, b⟩ := hAg p o hop
        exact absurd hod (q1 o (by
          have : ops.toList[p]? = some o := by simpa using b
          exact List.mem_of_getElem? this))) (by rw [hL0]; exact q2)
      exact ⟨u', h1', h2'.mono le2⟩
  · rw [p3]; exact LR.mono s.dfs fun _ _ => DRel.mono (le.trans le2)
  · rw [p4]; exact s.rc.mono (le.trans le2)
  · have : ls.map σ = l1'.map σ ++ σ n :: l2'.map σ := by rw [els]; simp
    rw [this]; exact st1

theorem ordM_mem (ops : List Oper) (i : Nat) : i ∈ ordM ops ↔ i < ops.length := by
  unfold ordM
  simp only [List.mem_append, List.mem_filter, List.mem_range]
  cases (Nat.beq i (callAt ops) || behD ops (callAt ops) i) <;> simp
theorem ordM_nodup (ops : List Oper) : (ordM ops).Nodup := by
  unfold ordM
  rw [List.nodup_append]
  refine ⟨List.nodup_range.filter _, List.nodup_range.filter _, fun a ha b hb e => ?_⟩
  subst e
  simp only [List.mem_filter] at ha hb
  have := ha.2; rw [hb.2] at this; cases this
theorem ordM_len (ops : List Oper) : (ordM ops).length = ops.length := by
  unfold ordM
  rw [List.length_append]
  have key : ∀ (l : List Nat) (f : Nat → Bool), (l.filter fun i => !f i).length + (l.filter f).length = l.length := by
    intro l f
    induction l with
    | nil => rfl
    | cons x l ih => grind
  rw [key _ fun i => Nat.beq i (callAt ops) || behD ops (callAt ops) i, List.length_range]

include ok hc hcode in
theorem midD_sim (cx : Cx) (id : Nat) (ops : Array Oper) (l : Loc) (h : Hp) (l' : Loc) (h' : Hp) (x : Ex) (hon : midOn E ops.toList = true) (hl : midD E R ops.toList l h = some (x, l', h')) (mu : Mu) (w : World) (F : FC) (cs0 : List Frame) (tmps : Array Value) (dfs : List Deferred) (rcC : Option (Value × Bool)) (k : List Item) (s : SR P cx l h mu w F cs0 tmps dfs rcC) :
    Sim P cx h mu w F cs0 tmps dfs rcC (.code (.region id ops true) :: k) k x l' h' := by
  unfold midD at hl
  unfold midOn at hon
  have hok := Bool.and_eq_true_iff.1 (Bool.and_eq_true_iff.1 hon).2
  have hgu := hok.1
  have hmid := hok.2
  unfold midOk at hmid
  simp only [Bool.and_eq_true] at hmid
  obtain ⟨hrd, hat, hbe⟩ := hmid
  have od := pick_ord ops (ordM ops.toList) (ordM_mem ops.toList) (ordM_nodup ops.toList) (ordM_len ops.toList) hgu
  generalize hσ : (fun (p : Nat) => ((ordM ops.toList)[p]?).getD p) = σ at *
  generalize hτ : (fun (i : Nat) => if i < ops.size then posOf i (ordM ops.toList) else i) = τ at *
  change Ord (midL ops.toList).toArray ops σ τ at od
  generalize hosL : midL ops.toList = os at *
  generalize hn : callAt os = n at *
  cases hp : plan E os with
  | none => rw [hp] at hl; cases hl
  | some qp =>
  obtain ⟨q, ps⟩ := qp
  rw [hp] at hl
  simp only [] at hl
  cases hq : Nat.testBit q n with
  | true => rw [hq] at hl; cases hl
  | false =>
  rw [hq] at hl
  simp only [cond_false] at hl
  obtain ⟨M, hM1, hM2⟩ := plan_ok hp
  have hlS : (fun p => listedS (Array.replicate ops.size false) (σ p)) = fun _ => false := by
    funext i
    simp only [listedS, Array.getD_eq_getD_getElem?, Array.getElem?_replicate]
    split <;> rfl
  have hg := lin_good od hM1 ops.size (w.tape w.drawn (.order F.fn id)) (Array.replicate ops.size false) (by simp [od.size]) (by rw [hlS, ← od.size]; exact lackN_none _)
  rw [hlS] at hg
  have hsched : Region.schedule (P.follows .mixedOrders) ops (w.tape w.drawn (.order F.fn id)) = Region.linearise.go .any ops ops.size (w.tape w.drawn (.order F.fn id)) (Array.replicate ops.size false) [] := by
    rw [ok.mixed]; rfl
  generalize hlin : Region.linearise.go .any ops ops.size (w.tape w.drawn (.order F.fn id)) (Array.replicate ops.size false) [] = lin at *
  have back : (lin.map τ).map σ = lin := by rw [List.map_map, show (σ ∘ τ) = fun i => i from funext od.st]; simp
  have hst : Steps P (lone (F.mk' tmps dfs (.code (.region id ops true) :: k)) (callersOf rcC cs0) w) (lone (F.mk' tmps dfs (.inRegion ops lin :: k)) (callersOf rcC cs0) { w with drawn := w.drawn + 1 }) := by
    refine .one ?_
    rw [← hsched]
    rfl
  cases he : evOpsD E R os q (os.take n) 0 l h [] with
  | none => rw [he] at hl; cases hl
  | some r =>
  obtain ⟨l1, h1, tr1⟩ := r
  rw [he] at hl
  simp only [midGo] at hl
  unfold atIs at hat
  cases hcn : os[n]? with
  | none => rw [hcn] at hl; cases hl
  | some c =>
  rw [hcn] at hl hat
  simp only [Bool.and_eq_true] at hl hat
  have hcg : c.guard = none := by simpa using hat.2
  cases hv : opVal E R (aop E (l1.evD (tmpsOf c.op.operands.toList)) h1 c.op) with
  | none => rw [hv] at hl; cases hl
  | some r =>
  obtain ⟨out, h2⟩ := r
  rw [hv] at hl
  cases out with
  | pan v =>
    cases hl
    obtain ⟨mu', w', tmps', v', todo, s', e', hv', st⟩ := mid_pan ok hc hcode cx os.toArray ops od.same (lin.map τ) hg n c (by simpa using hcn) (fun i o hi ho => by
      have hm : o ∈ os.take n := by
        refine List.mem_of_getElem? (i := i) ?_
        rw [List.getElem?_take, if_pos hi]; simpa using ho
      have := List.all_eq_true.1 hrd o hm
      unfold readsO at this
      simp only [Bool.and_eq_true] at this
      exact ⟨Nat.le_of_ble_eq_true this.1, by simpa using this.2⟩) hcg q ps hp (fun i h1 h2 => by
      have := List.all_eq_true.1 hbe i (List.mem_range.2 (by simpa using h2))
      simp only [Bool.or_eq_true] at this
      rcases this with e | e
      · have := Nat.le_of_ble_eq_true e; omega
      · exact e) l h l1 h1 tr1 he v _ hv mu w F cs0 tmps dfs rcC k s
    rw [back] at st
    exact ⟨mu', w', tmps', dfs, rcC, s', e', v', todo, hv', Steps.trans hst st⟩
  | ret v =>
    simp only [] at hl
    split at hl
    next => cases hl
    next l2 h3 tr2 he2 =>
    cases hpo : pairsOk tr2 ps with
    | false => rw [hpo] at hl; cases hl
    | true =>
    rw [hpo] at hl
    cases hl
    have hnl : n < os.length := by
      have := (List.getElem?_eq_some_iff.1 hcn).1; exact this
    have hall : evOpsD E R os q os 0 l h [] = some (l', h', tr2) := by
      have hsp : os = os.take n ++ c :: os.drop (n + 1) := by
        have := List.getElem?_eq_some_iff.1 hcn
        obtain ⟨a, b⟩ := this
        rw [← b, ← List.drop_eq_getElem_cons a, List.take_append_drop]
      have : evOpsD E R os q (os.take n ++ c :: os.drop (n + 1)) 0 l h [] = some (l', h', tr2) := by
        rw [evOpsD_app, he]
        simp only [Option.bind_some, List.length_take, Nat.zero_add, Nat.min_eq_left (Nat.le_of_lt hnl), evOpsD, guardOk, hcg]
        have hh : hush E q n c.op = false := by unfold hush; rw [hq]; rfl
        simp only [hh, stepD, cond_false, hv]
        exact he2
      rw [← hsp] at this; exact this
    obtain ⟨mu', w', tmps', s', e', g3⟩ := draw_list ok hc hcode cx os.toArray ops od.same _ hg [] l h l' h' q ps tr2 hp hall hpo mu w F cs0 tmps dfs rcC k s
    rw [List.append_nil, back] at g3
    exact ⟨mu', w', tmps', dfs, rcC, s', e', Steps.trans hst (Steps.trans g3 (.one st_region_end))⟩

include ok hc hcode in
theorem split_ok : SplitSim E P R := by
  intro cx id ops l h l' h' x hl mu w F cs0 tmps dfs rcC k s
  unfold cutD at hl
  cases hf : forkOk E ops.toList with
  | true => rw [hf] at hl; exact forkD_sim ok hc hcode cx id ops l h l' h' x hl mu w F cs0 tmps dfs rcC k s
  | false =>
    rw [hf] at hl
    simp only [cond_false] at hl
    cases hs : midOn E ops.toList with
    | true => rw [hs] at hl; exact midD_sim ok hc hcode cx id ops l h l' h' x hs hl mu w F cs0 tmps dfs rcC k s
    | false => rw [hs] at hl; exact splitD_sim ok hc hcode cx id ops l h l' h' x hl mu w F cs0 tmps dfs rcC k s
end

/-- Each run of the model follows the evaluator. -/
theorem calls_run {E : Env} {P : Program} (ok : EOk E P) {n : Nat} {f : FuncId} {args : List Value} (ha : args.all okConst = true) {v : Value} {rc : Option (Value × Bool)} {h' : Hp}
    (hr : (run E n).call f args none hp0 = some (.ret v, rc, h')) (w : World) : Calls P f ⟨args⟩ w fun e w' => ∃ mu' v', VRel mu' v v' ∧ e = .returned v' ∧ Kept w w' :=
  calls_of_run ok (fun _ h1 h2 => ⟨draw_ok ok h1 h2, split_ok ok h1 h2⟩) ha hr w
end Go.Ab

/- The evaluator without fuel: its limit solves its own equations. -/
namespace Go.Ab

def RLe (R R' : Rec) : Prop := (∀ f a rc h o, R.call f a rc h = some o → R'.call f a rc h = some o) ∧ (∀ cx c l h o, R.code cx c l h = some o → R'.code cx c l h = some o)
def MonoF {α : Type} (F : Rec → Option α) : Prop := ∀ R R', RLe R R' → ∀ o, F R = some o → F R' = some o
theorem MonoF.const {α : Type} (x : Option α) : MonoF (fun _ => x) := fun _ _ _ _ h => h
theorem MonoF.bind {α β : Type} {F : Rec → Option α} {G : α → Rec → Option β} (hF : MonoF F) (hG : ∀ a, MonoF (G a)) : MonoF (fun R => (F R).bind fun a => G a R) := by
  intro R R' le o h
  simp only [] at h ⊢
  cases hx : F R with
  | none => rw [hx] at h; cases h
  | some a =>
    rw [hx] at h
    rw [hF R R' le a hx]
    exact hG a R R' le o h

theorem RLe.refl (R : Rec) : RLe R R := ⟨fun _ _ _ _ _ h => h, fun _ _ _ _ _ h => h⟩
theorem RLe.trans {a b c : Rec} (h : RLe a b) (k : RLe b c) : RLe a c := ⟨fun f x rc hh o e => k.1 _ _ _ _ _ (h.1 _ _ _ _ _ e), fun cx x l hh o e => k.2 _ _ _ _ _ (h.2 _ _ _ _ _ e)⟩

/-- A family of answers that grow, and their limit. -/
def MC (E : Env) (W : Rec) {α : Type} (F : Rec → Option α) : Prop := MonoF F ∧ ∀ o, F W = some o → ∃ n, F (run E n) = some o

section
variable {E : Env} {W : Rec}
theorem MC.const {α : Type} (x : Option α) : MC E W (fun _ => x) := ⟨.const x, fun _ h => ⟨0, h⟩⟩
theorem MC.bind (up : ∀ n m, n ≤ m → RLe (run E n) (run E m)) {α β : Type} {F : Rec → Option α} {G : α → Rec → Option β} (hF : MC E W F) (hG : ∀ a, MC E W (G a)) : MC E W (fun R => (F R).bind fun a => G a R) := by
  refine ⟨hF.1.bind fun a => (hG a).1, fun o h => ?_⟩
  simp only [] at h
  cases hx : F W with
  | none => rw [hx] at h; cases h
  | some a =>
    rw [hx] at h
    obtain ⟨n, hn⟩ := hF.2 a hx
    obtain ⟨m, hm⟩ := (hG a).2 o h
    refine ⟨n + m, ?_⟩
    simp only []
    rw [hF.1 _ _ (up n (n + m) (by omega)) a hn]
    exact (hG a).1 _ _ (up m (n + m) (by omega)) o hm
theorem MC.congr {α : Type} {F F' : Rec → Option α} (e : ∀ R, F' R = F R) (h : MC E W F) : MC E W F' := by
  have : F' = F := funext e
  rw [this]; exact h
end

section
variable (E : Env)
/-- Monotone: all parts, by the same shape as MC; so both are shown at once, of any property that is closed so. -/
structure Closed (E : Env) (K : ∀ {α : Type}, (Rec → Option α) → Prop) : Prop where
  const : ∀ {α : Type} (x : Option α), K (fun _ => x)
  bind : ∀ {α β : Type} {F : Rec → Option α} {G : α → Rec → Option β}, K F → (∀ a, K (G a)) → K (fun R => (F R).bind fun a => G a R)
  congr : ∀ {α : Type} {F F' : Rec → Option α}, (∀ R, F' R = F R) → K F → K F'
  call : ∀ f a rc h, K (fun R => R.call f a rc h)
  code : ∀ cx c l h, K (fun R => R.code cx c l h)
end

section
variable {E : Env} {K : ∀ {α : Type}, (Rec → Option α) → Prop} (C : Closed E K)
include C

theorem k_round (b : Nat) (args : List Value) (h : Hp) : K (fun R => roundStep E R b args h) := by
  unfold roundStep
  cases hg : h.get b with
  | none => exact C.const _
  | some x =>
    cases x <;> (try exact C.const _)
    rename_i r
    simp only []
    cases (E.fn r.fn).isSome with
    | false => exact C.const _
    | true =>
      simp only [cond_true]
      split
      next hst =>
        split
        next => exact C.const _
        next regs hregs =>
          refine C.congr (F := fun R => (R.code ⟨r.fn, r.nr, some b⟩ r.assign ⟨regs, [], none⟩ h).bind fun q => match q with
            | (.normal, l1, h1) => match h1.get b with
              | some (.loop r1) => match r1.st with
                | 0 => (R.code ⟨r.fn, r.nr, some b⟩ r.body l1 (h1.put b (.loop { r1 with st := 1 }))).bind fun q => match q with
                  | (.normal, _, h2) => match h2.get b with
                    | some (.loop r2) => some (.ret (.bool true), h2.put b (.loop { r2 with st := 0, pending := none }))
                    | _ => none
                  | (.exit id, _, h2) => match h2.get b with
                    | some (.loop r2) => some (.ret (.bool false), h2.put b (.loop { r2 with st := 2, pending := some (.exit id) }))
                    | _ => none
                  | (.ret, _, h2) => match h2.get b with
                    | some (.loop r2) => some (.ret (.bool false), h2.put b (.loop { r2 with st := 2, pending := some .ret }))
                    | _ => none
                  | (.pan v, l2, h2) => match l2.dfs with
                    | [] => some (.pan v, h2)
                    | _ => none
                | _ => none
              | _ => none
            | _ => none) ?_ ?_
          · intro R
            cases R.code ⟨r.fn, r.nr, some b⟩ r.assign ⟨regs, [], none⟩ h with
            | none => rfl
            | some q =>
              obtain ⟨x, l1, h1⟩ := q
              cases x <;> (try rfl)
              simp only [Option.bind_some]
              cases h1.get b with
              | none => rfl
              | some y =>
                cases y <;> (try rfl)
                rename_i r1
                simp only []
                cases hst1 : r1.st with
                | zero =>
                  simp only []
                  cases R.code ⟨r.fn, r.nr, some b⟩ r.body l1 (h1.put b (.loop { r1 with st := 1 })) with
                  | none => rfl
                  | some q => obtain ⟨x, l2, h2⟩ := q; cases x <;> rfl
                | succ n => rfl
          · refine C.bind (C.code _ _ _ _) fun q => ?_
            obtain ⟨x, l1, h1⟩ := q
            cases x <;> (try exact C.const _)
            simp only []
            cases h1.get b with
            | none => exact C.const _
            | some y =>
              cases y <;> (try exact C.const _)
              simp only []
              split
              · refine C.bind (C.code _ _ _ _) fun q => ?_
                exact C.const _
              · exact C.const _
      next => exact C.const _

theorem k_opVal (x : Option (ANext × Hp)) : K (fun R => opVal E R x) := by
  cases x with
  | none => exact C.const _
  | some q =>
    obtain ⟨nx, h⟩ := q
    cases nx <;> (try exact C.const _)
    · rename_i f args
      refine C.congr (F := fun R => (R.call f args none h).bind fun q => some (q.1, q.2.2)) (fun R => ?_) (C.bind (C.call _ _ _ _) fun _ => C.const _)
      simp only [opVal]
      cases R.call f args none h with
      | none => rfl
      | some q => obtain ⟨a, b, c⟩ := q; rfl
    · exact k_round C _ _ _

theorem k_stepOp (cx : Cx) (o : Oper) (l : Loc) (h : Hp) : K (fun R => stepOp E R cx o l h) := by
  unfold stepOp
  have key : K (fun R => ofOut o l (opVal E R (aop E l.ev h o.op))) := by
    refine C.congr (F := fun R => (opVal E R (aop E l.ev h o.op)).bind fun q => ofOut o l (some q)) (fun R => ?_) (C.bind (k_opVal C _) fun _ => C.const _)
    cases opVal E R (aop E l.ev h o.op) <;> rfl
  cases hx : aop E l.ev h o.op with
  | none => exact C.const _
  | some q =>
    rw [hx] at key
    obtain ⟨nx, h1⟩ := q
    cases nx <;> (try exact key)
    · cases cx.round <;> exact C.const _
    · cases cx.round <;> exact C.const _

theorem k_evOps (cx : Cx) (ops : List Oper) : ∀ (os : List Oper) (l : Loc) (h : Hp), K (fun R => evOps E R cx ops os l h)
  | [], l, h => C.const _
  | o :: os, l, h => by
    simp only [evOps]
    cases guardOk ops l.regs o with
    | none => exact C.const _
    | some b =>
      cases b with
      | false => exact k_evOps cx ops os _ _
      | true =>
        refine C.congr (F := fun R => (stepOp E R cx o l h).bind fun q => match q with
          | (.normal, l', h') => evOps E R cx ops os l' h'
          | q => some q) (fun R => ?_) (C.bind (k_stepOp C _ _ _ _) fun q => ?_)
        · cases stepOp E R cx o l h with
          | none => rfl
          | some q => obtain ⟨x, l', h'⟩ := q; cases x <;> rfl
        · obtain ⟨x, l', h'⟩ := q
          cases x <;> first | exact k_evOps cx ops os _ _ | exact C.const _

theorem k_stepD (ρ : Operand → Value) (quiet : Bool) (o : Oper) (h : Hp) : K (fun R => stepD E R ρ quiet o h) := by
  unfold stepD
  cases quiet with
  | true =>
    refine C.congr (F := fun R => (opVal E R (aop E ρ { h with lo := h.n } o.op)).bind fun q => match q with
      | (.ret v, h') => bif Nat.ble h.n h'.lo then some (v, { h' with lo := h.lo }) else none
      | _ => none) (fun R => ?_) (C.bind (k_opVal C _) fun _ => C.const _)
    simp only [cond_true]
    cases opVal E R (aop E ρ { h with lo := h.n } o.op) with
    | none => rfl
    | some q => obtain ⟨x, h'⟩ := q; cases x <;> rfl
  | false =>
    refine C.congr (F := fun R => (opVal E R (aop E ρ h o.op)).bind fun q => match q with
      | (.ret v, h') => some (v, h')
      | _ => none) (fun R => ?_) (C.bind (k_opVal C _) fun _ => C.const _)
    simp only [cond_false]
    cases opVal E R (aop E ρ h o.op) with
    | none => rfl
    | some q => obtain ⟨x, h'⟩ := q; cases x <;> rfl

theorem k_evOpsD (ops : List Oper) (q : Nat) : ∀ (os : List Oper) (i : Nat) (l : Loc) (h : Hp) (tr : List (Nat × Tch)), K (fun R => evOpsD E R ops q os i l h tr)
  | [], i, l, h, tr => C.const _
  | o :: os, i, l, h, tr => by
    simp only [evOpsD]
    cases guardOk ops l.regs o with
    | none => exact C.const _
    | some b =>
      cases b with
      | false => exact k_evOpsD ops q os _ _ _ _
      | true =>
        refine C.congr (F := fun R => (stepD E R (l.evD (tmpsOf o.op.operands.toList)) (hush E q i o.op) o h).bind fun p =>
          evOpsD E R ops q os (i + 1) (l.put o.dst p.1) p.2 (noted i tr (noteOf (l.evD (tmpsOf o.op.operands.toList)) (hush E q i o.op) o.op h p.2))) (fun R => ?_) (C.bind (k_stepD C _ _ _ _) fun q => k_evOpsD ops _ os _ _ _ _)
        cases stepD E R (l.evD (tmpsOf o.op.operands.toList)) (hush E q i o.op) o h with
        | none => rfl
        | some p => obtain ⟨a, b⟩ := p; rfl

theorem k_mid (ops : List Oper) (l : Loc) (h : Hp) : K (fun R => midD E R ops l h) := by
  unfold midD
  generalize midL ops = B
  cases plan E B with
  | none => exact C.const _
  | some p =>
    obtain ⟨q, ps⟩ := p
    simp only []
    cases Nat.testBit q (callAt B) with
    | true => exact C.const _
    | false =>
      simp only [cond_false]
      generalize callAt B = n
      refine C.congr (F := fun R => (evOpsD E R B q (B.take n) 0 l h []).bind fun x => midGo E R B q ps n l (some x)) (fun R => ?_) (C.bind (k_evOpsD C _ _ _ _ _ _ _) fun x => ?_)
      · cases evOpsD E R B q (B.take n) 0 l h [] <;> rfl
      · obtain ⟨l1, h1, tr⟩ := x
        simp only [midGo]
        cases B[n]? with
        | none => exact C.const _
        | some o =>
          simp only []
          refine C.congr (F := fun R => (opVal E R (aop E (l1.evD (tmpsOf o.op.operands.toList)) h1 o.op)).bind fun y => match y with
            | (.pan v, h') => some (.pan v, panL B l, h')
            | (.ret v, h') => (evOpsD E R B q (B.drop (n + 1)) (n + 1) (l1.put o.dst v) h' (noted n tr (noteOf (l1.evD (tmpsOf o.op.operands.toList)) false o.op h1 h'))).bind fun z => bif pairsOk z.2.2 ps then some (.normal, z.1, z.2.1) else none) (fun R => ?_) (C.bind (k_opVal C _) fun y => ?_)
          · cases opVal E R (aop E (l1.evD (tmpsOf o.op.operands.toList)) h1 o.op) with
            | none => rfl
            | some y =>
              obtain ⟨x, h'⟩ := y
              cases x with
              | pan v => rfl
              | ret v =>
                simp only [Option.bind_some]
                cases evOpsD E R B q (B.drop (n + 1)) (n + 1) (l1.put o.dst v) h' (noted n tr (noteOf (l1.evD (tmpsOf o.op.operands.toList)) false o.op h1 h')) with
                | none => rfl
                | some z => obtain ⟨a, b, c⟩ := z; rfl
          · obtain ⟨x, h'⟩ := y
            cases x with
            | pan v => exact C.const _
            | ret v => exact C.bind (k_evOpsD C _ _ _ _ _ _ _) fun _ => C.const _

theorem k_range (cx : Cx) (f : Value) (params : Array Tmp) (assign body : Code) (l : Loc) (h : Hp) : K (fun R => rangeStep R cx f params assign body l h) := by
  unfold rangeStep
  cases f <;> (try exact C.const _)
  rename_i t a b
  cases t <;> (try exact C.const _)
  rename_i g
  simp only []
  split
  · exact C.const _
  · rename_i h1 d dfs _
    refine C.congr (F := fun R => (R.call g (a.toList ++ [.func (.yield h1.n) #[] #[]] ++ b.toList) none
          (h1.new (.loop { fn := cx.fn, regs := l.regs, nr := cx.nr, params, assign, body, st := 0, pending := none, defers := d }))).bind fun q => match q with
      | (.pan v, _, h2) => some (.pan v, { l with dfs := dfs }, h2)
      | (.ret _, _, h2) => match h2.get h1.n with
        | some (.loop x) => match x.st with
          | 1 => none
          | _ => match x.pending with
            | none => some (.normal, { l with dfs := dfs }, h2.put h1.n .dead)
            | some (.exit id) => some (.exit id, { l with dfs := dfs }, h2.put h1.n .dead)
            | some .ret => some (.ret, { l with dfs := dfs }, h2.put h1.n .dead)
            | _ => none
        | _ => none) (fun R => ?_) (C.bind (C.call _ _ _ _) fun _ => C.const _)
    cases R.call g (a.toList ++ [.func (.yield h1.n) #[] #[]] ++ b.toList) none
          (h1.new (.loop { fn := cx.fn, regs := l.regs, nr := cx.nr, params, assign, body, st := 0, pending := none, defers := d })) with
    | none => rfl
    | some q => obtain ⟨x, y, z⟩ := q; cases x <;> rfl

theorem k_code (cx : Cx) : ∀ (c : Code) (l : Loc) (h : Hp), K (fun R => codeStep E R cx c l h) := by
  intro c
  induction c with
  | skip => intro l h; exact C.const _
  | label n => intro l h; exact C.const _
  | region id ops draw =>
    intro l h
    simp only [codeStep]
    cases draw with
    | false => exact k_evOps C _ _ _ _ _
    | true =>
      simp only [cond_true]
      cases E.cut cx.fn with
      | false =>
        simp only [cond_false]
        cases plan E (hoist ops.toList) with
        | none => exact C.const _
        | some p =>
          obtain ⟨q, ps⟩ := p
          simp only []
          refine C.congr (F := fun R => (evOpsD E R (hoist ops.toList) q (hoist ops.toList) 0 l h []).bind fun x => bif pairsOk x.2.2 ps then some (.normal, x.1, x.2.1) else none) (fun R => ?_) (C.bind (k_evOpsD C _ _ _ _ _ _ _) fun _ => C.const _)
          cases evOpsD E R (hoist ops.toList) q (hoist ops.toList) 0 l h [] with
          | none => rfl
          | some x => obtain ⟨a, b, c⟩ := x; rfl
      | true =>
        simp only [cond_true, cutD]
        cases forkOk E ops.toList with
        | true =>
          simp only [cond_true, forkD]
          cases forkP E (hoist ops.toList) with
          | none => exact C.const _
          | some p =>
            obtain ⟨q, ps⟩ := p
            simp only []
            refine C.congr (F := fun R => (evOpsD E R (hoist ops.toList) q (hoist ops.toList) 0 l h []).bind fun x => bif pairsOk x.2.2 ps then (match killT (forkT E (hoist ops.toList) (mkPos (hoist ops.toList))) x.1 x.2.1 with
              | some h2 => some (.normal, x.1, h2)
              | none => none) else none) (fun R => ?_) (C.bind (k_evOpsD C _ _ _ _ _ _ _) fun _ => C.const _)
            cases evOpsD E R (hoist ops.toList) q (hoist ops.toList) 0 l h [] with
            | none => rfl
            | some x => obtain ⟨a, b, c⟩ := x; rfl
        | false =>
        simp only [cond_false]
        cases midOn E ops.toList with
        | true => exact k_mid C _ _ _
        | false =>
        simp only [cond_false, splitD]
        cases splitOk ops.toList (ops.toList.length - 1) with
        | false => exact C.const _
        | true =>
          simp only [cond_true]
          generalize hoist (ops.toList.take (cutN ops.toList)) = A
          cases plan E A with
          | none => exact C.const _
          | some p =>
            obtain ⟨q, ps⟩ := p
            simp only []
            refine C.congr (F := fun R => (evOpsD E R A q A 0 l h []).bind fun x => bif pairsOk x.2.2 ps then evOps E R cx ops.toList (ops.toList.drop (cutN ops.toList)) x.1 x.2.1 else none) (fun R => ?_) (C.bind (k_evOpsD C _ _ _ _ _ _ _) fun x => ?_)
            · cases evOpsD E R A q A 0 l h [] with
              | none => rfl
              | some x => obtain ⟨a, b, c⟩ := x; rfl
            · cases pairsOk x.2.2 ps with
              | false => exact C.const _
              | true => exact k_evOps C _ _ _ _ _
  | seq a b iha ihb =>
    intro l h
    simp only [codeStep]
    refine C.congr (F := fun R => (codeStep E R cx a l h).bind fun q => match q with
      | (.normal, l', h') => codeStep E R cx b l' h'
      | q => some q) (fun R => ?_) (C.bind (iha _ _) fun q => ?_)
    · cases codeStep E R cx a l h with
      | none => rfl
      | some q => obtain ⟨x, l', h'⟩ := q; cases x <;> rfl
    · obtain ⟨x, l', h'⟩ := q
      cases x <;> first | exact ihb _ _ | exact C.const _
  | cond c a b iha ihb =>
    intro l h
    simp only [codeStep]
    cases l.ev c <;> (try exact C.const _)
    rename_i t
    cases t
    · exact ihb _ _
    · exact iha _ _
  | block id b ih =>
    intro l h
    simp only [codeStep]
    refine C.congr (F := fun R => (codeStep E R cx b l h).bind fun q => match q with
      | (.exit i, l', h') => bif Nat.beq i id then some (.normal, l', h') else some (.exit i, l', h')
      | q => some q) (fun R => ?_) (C.bind (ih _ _) fun _ => C.const _)
    cases codeStep E R cx b l h with
    | none => rfl
    | some q => obtain ⟨x, l', h'⟩ := q; cases x <;> rfl
  | loop b ih =>
    intro l h
    simp only [codeStep]
    refine C.congr (F := fun R => (codeStep E R cx b l h).bind fun q => match q with
      | (.normal, l', h') => R.code cx (.loop b) l' h'
      | q => some q) (fun R => ?_) (C.bind (ih _ _) fun q => ?_)
    · cases codeStep E R cx b l h with
      | none => rfl
      | some q => obtain ⟨x, l', h'⟩ := q; cases x <;> rfl
    · obtain ⟨x, l', h'⟩ := q
      cases x <;> first | exact C.code _ _ _ _ | exact C.const _
  | rangeFunc f params assign body _ _ => intro l h; exact k_range C _ _ _ _ _ _ _
  | exit id => intro l h; exact C.const _
  | scope b ih => intro l h; exact ih _ _
  | goto n => intro l h; exact C.const _
  | ret => intro l h; exact C.const _
  | refuse m => intro l h; exact C.const _

theorem k_unwind : ∀ (ds : List Deferred) (m : Option Value) (h : Hp), K (fun R => unwindA R ds m h)
  | [], m, h => C.const _
  | d :: ds, m, h => by
    simp only [unwindA]
    cases d.target with
    | nil => exact C.const _
    | builtin a b c d => exact C.const _
    | coroexit => exact C.const _
    | collected b =>
      simp only []
      cases h.get b with
      | none => exact C.const _
      | some x => cases x <;> first | exact k_unwind ds _ _ | exact C.const _
    | fn t cap =>
      cases t <;> (try exact C.const _)
      rename_i f
      simp only []
      refine C.congr (F := fun R => (R.call f (d.args.toList ++ cap.toList) (match m with | none => none | some v => some (v, false)) h).bind fun q => match q with
        | (.ret _, rc, h') => match m, rc with
          | none, none => unwindA R ds none h'
          | some _, some (_, true) => unwindA R ds none h'
          | some _, some (v, false) => unwindA R ds (some v) h'
          | _, _ => none
        | _ => none) (fun R => ?_) (C.bind (C.call _ _ _ _) fun q => ?_)
      · cases R.call f (d.args.toList ++ cap.toList) (match m with | none => none | some v => some (v, false)) h with
        | none => rfl
        | some q => obtain ⟨x, y, z⟩ := q; cases x <;> rfl
      · obtain ⟨x, rc, h'⟩ := q
        cases x with
        | pan v => exact C.const _
        | ret v =>
          simp only []
          cases m with
          | none => cases rc <;> first | exact k_unwind ds _ _ | exact C.const _
          | some v0 =>
            cases rc with
            | none => exact C.const _
            | some y => obtain ⟨v1, b⟩ := y; cases b <;> exact k_unwind ds _ _

theorem k_body (f : FuncId) (args : List Value) (rc : Option (Value × Bool)) (h : Hp) : K (fun R => callBody E R f args rc h) := by
  unfold callBody
  cases E.fn f with
  | none => exact C.const _
  | some fn =>
    simp only []
    cases fn.body with
    | none => exact C.const _
    | some body =>
      simp only []
      cases Nat.ble args.length fn.ntmps with
      | false => exact C.const _
      | true =>
        simp only [cond_true]
        have tail : ∀ (l : Loc) (h' : Hp), K (fun R => match unwindA R l.dfs none h' with
          | some (none, h'') => match readRes E l.regs h'' fn.results.toList with
            | none => none
            | some vs => some (Out.ret (tupleOf vs), l.rc, h'')
          | _ => none) := by
          intro l h'
          refine C.congr (F := fun R => (unwindA R l.dfs none h').bind fun q => match q with
            | (none, h'') => match readRes E l.regs h'' fn.results.toList with
              | none => none
              | some vs => some (Out.ret (tupleOf vs), l.rc, h'')
            | _ => none) (fun R => ?_) (C.bind (k_unwind C _ _ _) fun _ => C.const _)
          cases unwindA R l.dfs none h' with
          | none => rfl
          | some q => obtain ⟨x, y⟩ := q; cases x <;> rfl
        refine C.congr (F := fun R => (R.code ⟨f, fn.ntmps, none⟩ body ⟨(Tr.blank (.tuple #[]) fn.ntmps fn.ntmps).setAll 0 args, [], rc⟩ h).bind fun q => match q with
          | (.exit _, _, _) => none
          | (.pan v, l, h') => match unwindA R l.dfs (some v) h' with
            | none => none
            | some (some v, h'') => some (Out.pan v, l.rc, h'')
            | some (none, h'') => match readRes E l.regs h'' fn.results.toList with
              | none => none
              | some vs => some (Out.ret (tupleOf vs), l.rc, h'')
          | (_, l, h') => match unwindA R l.dfs none h' with
            | some (none, h'') => match readRes E l.regs h'' fn.results.toList with
              | none => none
              | some vs => some (Out.ret (tupleOf vs), l.rc, h'')
            | _ => none) (fun R => ?_) (C.bind (C.code _ _ _ _) fun q => ?_)
        · cases R.code ⟨f, fn.ntmps, none⟩ body ⟨(Tr.blank (.tuple #[]) fn.ntmps fn.ntmps).setAll 0 args, [], rc⟩ h with
          | none => rfl
          | some q => obtain ⟨x, y, z⟩ := q; cases x <;> rfl
        · obtain ⟨x, l, h'⟩ := q
          cases x with
          | exit id => exact C.const _
          | normal => exact tail l h'
          | ret => exact tail l h'
          | pan v =>
            simp only []
            refine C.congr (F := fun R => (unwindA R l.dfs (some v) h').bind fun q => match q with
              | (some v, h'') => some (Out.pan v, l.rc, h'')
              | (none, h'') => match readRes E l.regs h'' fn.results.toList with
                | none => none
                | some vs => some (Out.ret (tupleOf vs), l.rc, h'')) (fun R => ?_) (C.bind (k_unwind C _ _ _) fun _ => C.const _)
            cases unwindA R l.dfs (some v) h' with
            | none => rfl
            | some q => obtain ⟨x, y⟩ := q; cases x <;> rfl
theorem k_call (f : FuncId) (args : List Value) (rc : Option (Value × Bool)) (h : Hp) : K (fun R => callStep E R f args rc h) := by
  unfold callStep
  cases E.pre f args h with
  | none => exact k_body C f args rc h
  | some q => obtain ⟨v, h'⟩ := q; cases rc <;> exact C.const _
end

theorem closed_mono (E : Env) : Closed E (fun F => MonoF F) where
  const := MonoF.const
  bind := fun hF hG => hF.bind hG
  congr := fun e h => by have := funext e; rw [this]; exact h
  call := fun f a rc h R R' le o => le.1 f a rc h o
  code := fun cx c l h R R' le o => le.2 cx c l h o

theorem next_mono {E : Env} {R R' : Rec} (h : RLe R R') : RLe (next E R) (next E R') :=
  ⟨fun f a rc hh o e => k_call (closed_mono E) f a rc hh R R' h o e, fun cx c l hh o e => k_code (closed_mono E) cx c l hh R R' h o e⟩
theorem run_succ {E : Env} : ∀ n, RLe (run E n) (run E (n + 1))
  | 0 => by
    constructor
    · intro f a rc h o e; cases e
    · intro cx c l h o e; cases e
  | n + 1 => next_mono (run_succ n)
theorem run_up {E : Env} (n m : Nat) (h : n ≤ m) : RLe (run E n) (run E m) := by
  induction m with
  | zero => have : n = 0 := by omega
            subst this; exact RLe.refl _
  | succ m ih =>
    by_cases e : n = m + 1
    · subst e; exact RLe.refl _
    · exact (ih (by omega)).trans (run_succ m)

open Classical in
/-- The limit of a family that grows. -/
noncomputable def limOf {α : Type} (F : Nat → Option α) : Option α := if h : ∃ n o, F n = some o then some (Classical.choose (Classical.choose_spec h)) else none
theorem limOf_some {α : Type} {F : Nat → Option α} (up : ∀ n m, n ≤ m → ∀ o, F n = some o → F m = some o) {o : α} : limOf F = some o ↔ ∃ n, F n = some o := by
  constructor
  · intro h
    unfold limOf at h
    split at h
    · rename_i hx
      cases h
      exact ⟨_, Classical.choose_spec (Classical.choose_spec hx)⟩
    · cases h
  · intro ⟨n, h⟩
    unfold limOf
    have hx : ∃ n o, F n = some o := ⟨n, o, h⟩
    rw [dif_pos hx]
    have h2 := Classical.choose_spec (Classical.choose_spec hx)
    have a := up _ (n + Classical.choose hx) (by omega) _ h
    have b := up _ (n + Classical.choose hx) (by omega) _ h2
    rw [a] at b; cases b; rfl

/-- The evaluator. -/
noncomputable def lim (E : Env) : Rec where
  call := fun f a rc h => limOf fun n => (run E n).call f a rc h
  code := fun cx c l h => limOf fun n => (run E n).code cx c l h
theorem lim_call {E : Env} {f : FuncId} {a : List Value} {rc : Option (Value × Bool)} {h : Hp} {o : Out × Option (Value × Bool) × Hp} : (lim E).call f a rc h = some o ↔ ∃ n, (run E n).call f a rc h = some o :=
  limOf_some fun n m hnm o e => (run_up n m hnm).1 _ _ _ _ _ e
theorem lim_code {E : Env} {cx : Cx} {c : Code} {l : Loc} {h : Hp} {o : Ex × Loc × Hp} : (lim E).code cx c l h = some o ↔ ∃ n, (run E n).code cx c l h = some o :=
  limOf_some fun n m hnm o e => (run_up n m hnm).2 _ _ _ _ _ e
theorem run_lim {E : Env} (n : Nat) : RLe (run E n) (lim E) := ⟨fun _ _ _ _ _ h => lim_call.2 ⟨n, h⟩, fun _ _ _ _ _ h => lim_code.2 ⟨n, h⟩⟩

theorem closed_lim (E : Env) : Closed E (fun F => MC E (lim E) F) where
  const := MC.const
  bind := fun hF hG => MC.bind run_up hF hG
  congr := fun e h => MC.congr e h
  call := fun f a rc h => ⟨(closed_mono E).call f a rc h, fun _ e => lim_call.1 e⟩
  code := fun cx c l h => ⟨(closed_mono E).code cx c l h, fun _ e => lim_code.1 e⟩

theorem option_ext {α : Type} {x y : Option α} (h : ∀ o, x = some o ↔ y = some o) : x = y := by
  cases x with
  | none => cases y with
    | none => rfl
    | some b => exact absurd ((h b).2 rfl) (by simp)
  | some a => exact ((h a).1 rfl).symm

theorem call_eq (E : Env) (f : FuncId) (a : List Value) (rc : Option (Value × Bool)) (h : Hp) : (lim E).call f a rc h = callStep E (lim E) f a rc h := by
  refine option_ext fun o => ⟨fun e => ?_, fun e => ?_⟩
  · obtain ⟨n, hn⟩ := lim_call.1 e
    cases n with
    | zero => cases hn
    | succ n => exact k_call (closed_mono E) f a rc h _ _ (run_lim n) o hn
  · obtain ⟨n, hn⟩ := (k_call (closed_lim E) f a rc h).2 o e
    exact lim_call.2 ⟨n + 1, hn⟩
theorem code_eq (E : Env) (cx : Cx) (c : Code) (l : Loc) (h : Hp) : (lim E).code cx c l h = codeStep E (lim E) cx c l h := by
  refine option_ext fun o => ⟨fun e => ?_, fun e => ?_⟩
  · obtain ⟨n, hn⟩ := lim_code.1 e
    cases n with
    | zero => cases hn
    | succ n => exact k_code (closed_mono E) cx c l h _ _ (run_lim n) o hn
  · obtain ⟨n, hn⟩ := (k_code (closed_lim E) cx c l h).2 o e
    exact lim_code.2 ⟨n + 1, hn⟩

/-- The model follows the limit. -/
theorem lim_ok {E : Env} {P : Program} (ok : EOk E P) : CallOk E P (lim E).call := by
  intro g args rc h o rc' h' hl
  obtain ⟨n, hn⟩ := lim_call.1 hl
  exact (run_ok ok (fun _ h1 h2 => ⟨draw_ok ok h1 h2, split_ok ok h1 h2⟩) n).1 _ _ _ _ _ _ _ hn
end Go.Ab
namespace Go.Ab
/-- What a run tells may be used elsewhere. -/
theorem orc_of_call {E : Env} {P : Program} {R : Rec} (hR : CallOk E P R.call) {f : FuncId} {args : List Value} {v : Value} {h' : Hp} (ha : args.all okConst = true) (hv : okConst v = true)
    (hr : R.call f args none hp0 = some (.ret v, none, h')) : (∃ fn, E.fn f = some fn ∧ fn.body.isSome = true) ∧ OrcAt P f args v := by
  obtain ⟨h0, h1⟩ := hR _ _ _ _ _ _ _ hr
  refine ⟨h0, ha, hv, fun w cs0 kind hk => ?_⟩
  obtain ⟨mu', w', rcC', fr, k1, k2, k3, k4, k5, k6, k7⟩ := h1 mu0 w ⟨args⟩ none cs0 kind (hrel0 w) glob0 (LR.refl fun a ha' => VRel.const mu0 (by simp only [List.all_eq_true] at ha; exact ha a ha')) trivial hk
  cases rcC' with
  | some x => exact k3.elim
  | none =>
    obtain ⟨v', l1, l2⟩ := k6
    rw [VRel.const_eq hv l2] at l1
    exact ⟨w', fr, ⟨fun c hc => k2.frame c hc (by intro b base top h; unfold mu0 at h; split at h <;> cases h), k2.wsize, k2.os, k2.tape, k2.output⟩, k5, l1, k7⟩
theorem orc_of_run {E : Env} {P : Program} (ok : EOk E P) {n : Nat} {f : FuncId} {args : List Value} {v : Value} {h' : Hp} (ha : args.all okConst = true) (hv : okConst v = true)
    (hr : (run E n).call f args none hp0 = some (.ret v, none, h')) : (∃ fn, E.fn f = some fn ∧ fn.body.isSome = true) ∧ OrcAt P f args v :=
  orc_of_call (R := run E n) (run_ok ok (fun _ h1 h2 => ⟨draw_ok ok h1 h2, split_ok ok h1 h2⟩) n).1 ha hv hr
theorem orc_of_lim {E : Env} {P : Program} (ok : EOk E P) {f : FuncId} {args : List Value} {v : Value} {h' : Hp} (ha : args.all okConst = true) (hv : okConst v = true)
    (hr : (lim E).call f args none hp0 = some (.ret v, none, h')) : (∃ fn, E.fn f = some fn ∧ fn.body.isSome = true) ∧ OrcAt P f args v :=
  orc_of_call (R := lim E) (lim_ok ok) ha hv hr
end Go.Ab

/- Reasoning on the evaluator: a stack of code, registers as a function. -/
namespace Go.Ab

/-! ### registers -/
def tabF : Nat → Nat → (Nat → Value) → Tr Value
  | 0, _, _ => .nil
  | f + 1, n, ρ => match n with
    | 0 => .nil
    | k + 1 => .node (ρ 0) (tabF f ((k + 1) / 2) fun i => ρ (2 * i + 1)) (tabF f (k / 2) fun i => ρ (2 * i + 2))
def tab (n : Nat) (ρ : Nat → Value) : Tr Value := tabF n n ρ
theorem get_tabF (f n : Nat) (ρ : Nat → Value) (h : n ≤ f) (j : Nat) : (tabF f n ρ).get j = if j < n then some (ρ j) else none := by
  induction f generalizing n j ρ with
  | zero => grind[tabF,Tr.get_nil]
  | succ f ih =>
    cases n with
    | zero => rfl
    | succ k =>
      simp only [tabF]
      rw [Tr.get_node]
      grind
theorem get_tab (n : Nat) (ρ : Nat → Value) (j : Nat) : (tab n ρ).get j = if j < n then some (ρ j) else none := get_tabF n n ρ (Nat.le_refl _) j
theorem sized_tab (n : Nat) (ρ : Nat → Value) : (tab n ρ).Sized n := by
  intro j; rw [get_tab]; grind
theorem Tr.ext {α : Type} {t t' : Tr α} (h : ∀ i, t.get i = t'.get i) : t = t' := by
  induction t generalizing t' with
  | nil =>
    cases t' with
    | nil => rfl
    | node y l r => have := h 0; simp [Tr.get_nil, Tr.get_node] at this
  | node x l r ihl ihr =>
    cases t' with
    | nil => have := h 0; simp [Tr.get_nil, Tr.get_node] at this
    | node y l' r' =>
      have h0 := h 0
      simp [Tr.get_node] at h0
      subst h0
      rw [ihl (t' := l') (fun i => by have := h (2 * i + 1); simp_all[Tr.get_node,if_pos]),
        ihr (t' := r') (fun i => by have := h (2 * i + 2); simp only [Tr.get_node] at this; grind)]

def setR (ρ : Nat → Value) (t : Nat) (v : Value) : Nat → Value := fun i => if i = t then v else ρ i
theorem setR_at (ρ : Nat → Value) (t : Nat) (v : Value) (i : Nat) : setR ρ t v i = if i = t then v else ρ i := rfl
theorem tab_set (n : Nat) (ρ : Nat → Value) (t : Nat) (v : Value) : (tab n ρ).set t v = tab n (setR ρ t v) := by
  apply Tr.ext
  intro i
  rw [Tr.get_set, get_tab, get_tab]
  by_cases hi : i < n
  · by_cases e : t = i
    · subst e; simp [hi, setR]
    · simp [hi, e, setR, Ne.symm e]
  · simp [hi]
theorem tab_of {t : Tr Value} {n : Nat} (h : t.Sized n) : t = tab n fun i => (t.get i).getD (.tuple #[]) := by
  apply Tr.ext
  intro i
  rw [get_tab]
  by_cases hi : i < n
  · obtain ⟨v, hv⟩ := Tr.get_some h hi
    simp [hi, hv]
  · rw [if_neg hi]; exact Tr.get_none h (by omega)
def argR : List Value → Nat → Value
  | [], _ => .tuple #[]
  | v :: l, i => match i with
    | 0 => v
    | i + 1 => argR l i
theorem argR_eq (l : List Value) (i : Nat) : argR l i = (l[i]?).getD (.tuple #[]) := by
  induction l generalizing i with
  | nil => rfl
  | cons v l ih => cases i with
    | zero => rfl
    | succ i => simp [argR, ih]
theorem args_tab {n : Nat} {args : List Value} (h : args.length ≤ n) : (Tr.blank (.tuple #[]) n n : Tr Value).setAll 0 args = tab n (argR args) := by
  apply Tr.ext
  intro i
  rw [Tr.get_setAll _ 0 args n (Tr.sized_blank _ _ _ (Nat.le_refl _)) (by omega), get_tab, Tr.get_blank _ _ _ (Nat.le_refl _), argR_eq]
  grind

/-- A frame's registers, deferred calls, and what may be recovered. -/
def LL (n : Nat) (ρ : Nat → Value) (d : List Deferred) (rc : Option (Value × Bool)) : Loc := ⟨tab n ρ, d, rc⟩
theorem ll_put (n : Nat) (ρ : Nat → Value) (d : List Deferred) (rc : Option (Value × Bool)) (t : Nat) (v : Value) : (LL n ρ d rc).put (some t) v = LL n (setR ρ t v) d rc := by
  simp only [LL, Loc.put, tab_set]
theorem ll_put0 (l : Loc) (v : Value) : l.put none v = l := rfl
theorem ll_tmp (n : Nat) (ρ : Nat → Value) (d : List Deferred) (rc : Option (Value × Bool)) (t : Nat) (h : t < n) : (LL n ρ d rc).ev (.tmp t) = ρ t := by
  simp only [LL, Loc.ev, get_tab, if_pos h]
theorem ll_const (l : Loc) (v : Value) (h : okConst v = true) : l.ev (.const v) = v := by simp only [Loc.ev, h, cond_true]
theorem ll_func (l : Loc) (f : Nat) : l.ev (.func f) = .func (.func f) #[] #[] := rfl
theorem ll_regs (n : Nat) (ρ : Nat → Value) (d : List Deferred) (rc : Option (Value × Bool)) : (LL n ρ d rc).regs = tab n ρ := rfl
theorem ll_dfs (n : Nat) (ρ : Nat → Value) (d : List Deferred) (rc : Option (Value × Bool)) : (LL n ρ d rc).dfs = d := rfl
theorem ll_rc (n : Nat) (ρ : Nat → Value) (d : List Deferred) (rc : Option (Value × Bool)) : (LL n ρ d rc).rc = rc := rfl

/-! ### a stack of code -/
/-- What becomes of a step's answer. -/
def Then (x : Option (Ex × Loc × Hp)) (K : Ex → Loc → Hp → Prop) : Prop := ∃ e l h, x = some (e, l, h) ∧ K e l h
theorem then_some {e : Ex} {l : Loc} {h : Hp} {K : Ex → Loc → Hp → Prop} : Then (some (e, l, h)) K ↔ K e l h := by
  constructor
  · intro ⟨_, _, _, h1, h2⟩; grind
  · intro h2; exact ⟨_, _, _, rfl, h2⟩

abbrev Post := Ex → Loc → Hp → Prop
inductive Fr where
  | code (c : Code)
  | blk (id : Nat)
  | ops (all os : List Oper)
  | opsD (all : List Oper) (q : Nat) (ps : List (Nat × Nat)) (os : List Oper) (i : Nat) (tr : List (Nat × Tch))
  | kill (t : Tmp)
  | midP (o : Oper) (os : List Oper) (l0 : Loc)
section
variable (E : Env) (R : Rec) (cx : Cx) (Q : Post)
def Run : List Fr → Ex → Loc → Hp → Prop
  | [], e, l, h => Q e l h
  | .code c :: k, .normal, l, h => ∃ e' l' h', codeStep E R cx c l h = some (e', l', h') ∧ Run k e' l' h'
  | .ops a os :: k, .normal, l, h => ∃ e' l' h', evOps E R cx a os l h = some (e', l', h') ∧ Run k e' l' h'
  | .opsD a q ps os i tr :: k, .normal, l, h => ∃ l' h' tr', evOpsD E R a q os i l h tr = some (l', h', tr') ∧ pairsOk tr' ps = true ∧ Run k .normal l' h'
  | .kill t :: k, .normal, l, h => ∃ b es c, l.ev (.tmp t) = .map (some b) ∧ h.get b = some (.map es c) ∧ Run k .normal l (h.put b .dead)
  | .midP o os l0 :: k, .normal, l, h => ∃ v h', opVal E R (aop E (l.evD (tmpsOf o.op.operands.toList)) h o.op) = some (.pan v, h') ∧ Run k (.pan v) (panL os l0) h'
  | .blk _ :: k, .normal, l, h => Run k .normal l h
  | .blk id :: k, .exit i, l, h => if i = id then Run k .normal l h else Run k (.exit i) l h
  | _ :: k, .exit i, l, h => Run k (.exit i) l h
  | _ :: k, .ret, l, h => Run k .ret l h
  | _ :: k, .pan v, l, h => Run k (.pan v) l h
end
section
variable {E : Env} {R : Rec} {cx : Cx} {Q : Post} {k : List Fr} {l : Loc} {h : Hp}

theorem run_nil {e : Ex} : Run E R cx Q [] e l h ↔ Q e l h := Iff.rfl
theorem run_skip : Run E R cx Q (.code .skip :: k) .normal l h ↔ Run E R cx Q k .normal l h := by simp only [Run, codeStep]; exact then_some
theorem run_label {n : Nat} : Run E R cx Q (.code (.label n) :: k) .normal l h ↔ Run E R cx Q k .normal l h := by simp only [Run, codeStep]; exact then_some
theorem run_seq {a b : Code} : Run E R cx Q (.code (.seq a b) :: k) .normal l h ↔ Run E R cx Q (.code a :: .code b :: k) .normal l h := by
  simp only [Run, codeStep]
  constructor
  · intro ⟨e', l', h', h1, h2⟩
    cases ha : codeStep E R cx a l h with
    | none => grind
    | some q =>
      obtain ⟨x, l1, hh1⟩ := q
      rw [ha] at h1
      refine ⟨x, l1, hh1, rfl, ?_⟩
      cases x with
      | normal => exact ⟨e', l', h', h1, h2⟩
      | exit i => cases h1; exact h2
      | ret => cases h1; exact h2
      | pan v => cases h1; exact h2
  · intro ⟨x, l1, hh1, ha, h2⟩
    rw [ha]
    cases x with
    | normal => exact h2
    | exit i => exact ⟨_, _, _, rfl, h2⟩
    | ret => exact ⟨_, _, _, rfl, h2⟩
    | pan v => exact ⟨_, _, _, rfl, h2⟩
theorem run_block {id : Nat} {b : Code} : Run E R cx Q (.code (.block id b) :: k) .normal l h ↔ Run E R cx Q (.code b :: .blk id :: k) .normal l h := by
  simp only [Run, codeStep]
  constructor
  · intro ⟨e', l', h', h1, h2⟩
    cases ha : codeStep E R cx b l h with
    | none => grind
    | some q =>
      obtain ⟨x, l1, hh1⟩ := q
      rw [ha] at h1
      refine ⟨x, l1, hh1, rfl, ?_⟩
      cases x with
      | normal => cases h1; exact h2
      | exit i =>
        simp only [] at h1
        cases hi : Nat.beq i id with
        | true => simp_all[Nat.eq_of_beq_eq_true,Run,if_true]
        | false =>
          rw [hi] at h1; cases h1
          simp only [Run]
          rw [if_neg (by grind[Nat.beq_refl])]; exact h2
      | ret => cases h1; exact h2
      | pan v => cases h1; exact h2
  · intro ⟨x, l1, hh1, ha, h2⟩
    rw [ha]
    cases x with
    | normal => exact ⟨_, _, _, rfl, h2⟩
    | exit i =>
      simp only [Run] at h2
      simp only []
      by_cases hi : i = id
      · subst hi; rw [if_pos rfl] at h2; rw [Nat.beq_refl]; grind
      · rw [if_neg hi] at h2
        have : Nat.beq i id = false := by
          grind[Nat.beq,id,absurd,Nat.eq_of_beq_eq_true]
        grind
    | ret => exact ⟨_, _, _, rfl, h2⟩
    | pan v => exact ⟨_, _, _, rfl, h2⟩
theorem run_scope {b : Code} : Run E R cx Q (.code (.scope b) :: k) .normal l h ↔ Run E R cx Q (.code b :: k) .normal l h := Iff.rfl
theorem run_blk {id : Nat} : Run E R cx Q (.blk id :: k) .normal l h ↔ Run E R cx Q k .normal l h := Iff.rfl
theorem run_exit {id : Nat} : Run E R cx Q (.code (.exit id) :: k) .normal l h ↔ Run E R cx Q k (.exit id) l h := by simp only [Run, codeStep]; exact then_some
theorem run_ret : Run E R cx Q (.code .ret :: k) .normal l h ↔ Run E R cx Q k .ret l h := by simp only [Run, codeStep]; exact then_some
theorem run_blk_exit {id i : Nat} : Run E R cx Q (.blk id :: k) (.exit i) l h ↔ if i = id then Run E R cx Q k .normal l h else Run E R cx Q k (.exit i) l h := Iff.rfl
theorem run_code_exit {c : Code} {i : Nat} : Run E R cx Q (.code c :: k) (.exit i) l h ↔ Run E R cx Q k (.exit i) l h := Iff.rfl
theorem run_ops_exit {a os : List Oper} {i : Nat} : Run E R cx Q (.ops a os :: k) (.exit i) l h ↔ Run E R cx Q k (.exit i) l h := Iff.rfl
theorem run_fr_ret {f : Fr} : Run E R cx Q (f :: k) .ret l h ↔ Run E R cx Q k .ret l h := by cases f <;> exact Iff.rfl
theorem run_fr_pan {f : Fr} {v : Value} : Run E R cx Q (f :: k) (.pan v) l h ↔ Run E R cx Q k (.pan v) l h := by cases f <;> exact Iff.rfl
theorem run_cond {c : Operand} {a b : Code} : Run E R cx Q (.code (.cond c a b) :: k) .normal l h ↔ ∃ t, l.ev c = .bool t ∧ if t = true then Run E R cx Q (.code a :: k) .normal l h else Run E R cx Q (.code b :: k) .normal l h := by
  simp only [Run, codeStep]
  grind
theorem run_region {id : Nat} {ops : Array Oper} : Run E R cx Q (.code (.region id ops false) :: k) .normal l h ↔ Run E R cx Q (.ops ops.toList ops.toList :: k) .normal l h := by rfl
theorem run_loop {b : Code} : Run E R cx Q (.code (.loop b) :: k) .normal l h ↔ ∃ e' l' h', codeStep E R cx (.loop b) l h = some (e', l', h') ∧ Run E R cx Q k e' l' h' := Iff.rfl

/-! ### operations -/
theorem run_ops_nil {a : List Oper} : Run E R cx Q (.ops a [] :: k) .normal l h ↔ Run E R cx Q k .normal l h := by simp only [Run, evOps]; exact then_some
theorem run_ops_cons {a os : List Oper} {o : Oper} : Run E R cx Q (.ops a (o :: os) :: k) .normal l h ↔ ∃ b, guardOk a l.regs o = some b ∧
    (if b = true then Then (stepOp E R cx o l h) fun e l' h' => Run E R cx Q (.ops a os :: k) e l' h' else Run E R cx Q (.ops a os :: k) .normal (l.put o.dst (.tuple #[])) h) := by
  simp only [Run, evOps]
  constructor
  · intro ⟨e', l', h', h1, h2⟩
    cases hg : guardOk a l.regs o with
    | none => grind
    | some b =>
      rw [hg] at h1
      refine ⟨b, rfl, ?_⟩
      cases b with
      | false => grind
      | true =>
        rw [if_pos rfl]
        simp only [] at h1
        cases hs : stepOp E R cx o l h with
        | none => grind
        | some q =>
          obtain ⟨x, l1, hh1⟩ := q
          rw [hs] at h1
          refine ⟨x, l1, hh1, rfl, ?_⟩
          cases x with
          | normal => exact ⟨e', l', h', h1, h2⟩
          | exit i => cases h1; exact h2
          | ret => cases h1; exact h2
          | pan v => cases h1; exact h2
  · intro ⟨b, hg, h2⟩
    rw [hg]
    cases b with
    | false => grind
    | true =>
      rw [if_pos rfl] at h2
      obtain ⟨x, l1, hh1, hs, h2⟩ := h2
      simp only [hs]
      cases x with
      | normal => exact h2
      | exit i => exact ⟨_, _, _, rfl, h2⟩
      | ret => exact ⟨_, _, _, rfl, h2⟩
      | pan v => exact ⟨_, _, _, rfl, h2⟩

theorem run_draw {id : Nat} {ops : Array Oper} {q : Nat} {ps : List (Nat × Nat)} {os : List Oper} (hct : E.cut cx.fn = false) (hh : hoist ops.toList = os) (hp : plan E os = some (q, ps)) : Run E R cx Q (.code (.region id ops true) :: k) .normal l h ↔ Run E R cx Q (.opsD os q ps os 0 [] :: k) .normal l h := by
  simp only [Run, codeStep, cond_true, hct, cond_false, hh, hp]
  grind
theorem run_fork {id : Nat} {ops : Array Oper} {q : Nat} {ps : List (Nat × Nat)} {os : List Oper} {t : Tmp} (hct : E.cut cx.fn = true) (hh : hoist ops.toList = os) (ht : forkT E os (mkPos os) = some t) (hp : forkP E os = some (q, ps))
    (hr : Run E R cx Q (.opsD os q ps os 0 [] :: .kill t :: k) .normal l h) : Run E R cx Q (.code (.region id ops true) :: k) .normal l h := by
  obtain ⟨l', h', tr', he, hb, b, es, c, hk, hg, hq⟩ := hr
  have hf : forkOk E ops.toList = true := by unfold forkOk; rw [hh, ht]; rfl
  simp only [Run, codeStep, cond_true, hct, cutD, hf, forkD, hh, hp, he, hb, ht, killT, hk, hg]
  grind
theorem run_kill {t : Tmp} {b c : Nat} {es : List (Value × Value × Nat)} (hk : l.ev (.tmp t) = .map (some b)) (hg : h.get b = some (.map es c)) (hr : Run E R cx Q k .normal l (h.put b .dead)) : Run E R cx Q (.kill t :: k) .normal l h := ⟨b, es, c, hk, hg, hr⟩
theorem run_split {id : Nat} {ops : Array Oper} {q : Nat} {ps : List (Nat × Nat)} {os : List Oper} (hct : E.cut cx.fn = true) (hs : splitOk ops.toList (ops.toList.length - 1) = true) (hf : forkOk E ops.toList = false) (hmo : midOn E ops.toList = false) {n : Nat} (hc : cutN ops.toList = n) (hh : hoist (ops.toList.take n) = os) (hp : plan E os = some (q, ps))
    (hr : Run E R cx Q (.opsD os q ps os 0 [] :: .ops ops.toList (ops.toList.drop n) :: k) .normal l h) : Run E R cx Q (.code (.region id ops true) :: k) .normal l h := by
  obtain ⟨l', h', tr', he, hb, e', l2, h2, he2, hq⟩ := hr
  simp only [Run, codeStep, cond_true, hct, cutD, hf, hmo, cond_false, splitD, hs, hc, hh, hp, he, hb]
  grind
theorem run_mid {id : Nat} {ops : Array Oper} {q n : Nat} {ps : List (Nat × Nat)} {os : List Oper} (hct : E.cut cx.fn = true) (hf : forkOk E ops.toList = false) (hs : midOn E ops.toList = true)
    (hm : midL ops.toList = os) (hn : callAt os = n) (hok : midOk E os n = true) (hp : plan E os = some (q, ps)) (hq : Nat.testBit q n = false)
    (hr : Run E R cx Q (.opsD os q ps os 0 [] :: k) .normal l h) : Run E R cx Q (.code (.region id ops true) :: k) .normal l h := by
  obtain ⟨l', h', tr', he, hb, hk⟩ := hr
  simp only [Run, codeStep, cond_true, hct, cutD, hf, cond_false, hs, midD, hm, hn, hp, hq]
  refine ⟨.normal, l', h', ?_, hk⟩
  unfold midOk atIs at hok
  simp only [Bool.and_eq_true] at hok
  obtain ⟨_, hat, _⟩ := hok
  cases hcn : os[n]? with
  | none => rw [hcn] at hat; cases hat
  | some c =>
    rw [hcn] at hat
    simp only [Bool.and_eq_true] at hat
    have hcg : c.guard = none := by simpa using hat.2
    have hnl : n < os.length := (List.getElem?_eq_some_iff.1 hcn).1
    have hsp : os.take n ++ c :: os.drop (n + 1) = os := by
      obtain ⟨a, b⟩ := List.getElem?_eq_some_iff.1 hcn
      rw [← b, ← List.drop_eq_getElem_cons a, List.take_append_drop]
    have he2 : evOpsD E R os q (os.take n ++ c :: os.drop (n + 1)) 0 l h [] = some (l', h', tr') := by rw [hsp]; exact he
    rw [evOpsD_app] at he2
    obtain ⟨⟨l1, h1, tr1⟩, s1, he2⟩ := Option.bind_eq_some_iff.1 he2
    have hh : hush E q n c.op = false := by unfold hush; rw [hq]; rfl
    simp only [List.length_take, Nat.zero_add, Nat.min_eq_left (Nat.le_of_lt hnl), evOpsD, guardOk, hcg, hh, stepD, cond_false] at he2
    rw [s1]
    simp only [midGo, hcn]
    cases hv : opVal E R (aop E (l1.evD (tmpsOf c.op.operands.toList)) h1 c.op) with
    | none => rw [hv] at he2; cases he2
    | some y =>
      obtain ⟨x, h2⟩ := y
      rw [hv] at he2
      cases x with
      | pan v => cases he2
      | ret v =>
        simp only [] at he2 ⊢
        rw [he2]
        simp only [hb, cond_true]
theorem run_midP {id : Nat} {ops : Array Oper} {q n : Nat} {ps : List (Nat × Nat)} {os : List Oper} {c : Oper} (hct : E.cut cx.fn = true) (hf : forkOk E ops.toList = false) (hs : midOn E ops.toList = true)
    (hm : midL ops.toList = os) (hn : callAt os = n) (hp : plan E os = some (q, ps)) (hq : Nat.testBit q n = false) (hc : os[n]? = some c)
    (hr : Run E R cx Q (.opsD os q [] (os.take n) 0 [] :: .midP c os l :: k) .normal l h) : Run E R cx Q (.code (.region id ops true) :: k) .normal l h := by
  obtain ⟨l', h', tr', he, _, v, h2, hv, hk⟩ := hr
  simp only [Run, codeStep, cond_true, hct, cutD, hf, cond_false, hs, midD, hm, hn, hp, hq, he, midGo, hc, hv]
  exact ⟨_, _, _, rfl, hk⟩
theorem run_opsD_nil {a : List Oper} {q i : Nat} {ps : List (Nat × Nat)} {tr : List (Nat × Tch)} : Run E R cx Q (.opsD a q ps [] i tr :: k) .normal l h ↔ pairsOk tr ps = true ∧ Run E R cx Q k .normal l h := by
  simp only [Run, evOpsD]
  grind
theorem run_opsD_cons {a os : List Oper} {o : Oper} {q i : Nat} {ps : List (Nat × Nat)} {tr : List (Nat × Tch)} : Run E R cx Q (.opsD a q ps (o :: os) i tr :: k) .normal l h ↔ ∃ b, guardOk a l.regs o = some b ∧
    (if b = true then ∃ v h', stepD E R (l.evD (tmpsOf o.op.operands.toList)) (hush E q i o.op) o h = some (v, h') ∧
        Run E R cx Q (.opsD a q ps os (i + 1) (noted i tr (noteOf (l.evD (tmpsOf o.op.operands.toList)) (hush E q i o.op) o.op h h')) :: k) .normal (l.put o.dst v) h'
      else Run E R cx Q (.opsD a q ps os (i + 1) tr :: k) .normal (l.put o.dst (.tuple #[])) h) := by
  simp only [Run, evOpsD]
  grind
end
end Go.Ab

/- A program's own environment. -/
namespace Go.Ab

noncomputable def envOf (fns : Tr Func) (tys : Tr TypeInfo) (eqs : List Nat) : Env := { fn := fun f => fns.get f, ty := fun t => tys.get t, eqok := fun t => memb t eqs }

theorem run_callFunc {P : Program} {f : FuncId} {fn : Func} (hf : P.funcs[f]? = some fn) (hb : fn.body.isSome = true) (hn : (fn.name == "runtime.NumGoroutine") = false) (args : Array Value) (w : World) :
    (callFunc f args).run P w = .ok (.enter f args) w := by
  have hnone : fn.body.isNone = false := by cases h : fn.body <;> simp_all
  unfold callFunc
  have hp : program.run P w = .ok P w := rfl
  simp only [Sem.run_bind, hp, Result.andThen_ok, hf, hn, hnone, Bool.false_eq_true, if_false, Sem.run_pure]

theorem eok_of {P : Program} {fns : Tr Func} {tys : Tr TypeInfo} {eqs : List Nat} (h1 : fns = Tr.ofList P.funcs.toList) (h2 : tys = Tr.ofList P.types.toList)
    (h3 : (P.funcs.toList.all fun fn => fn.body.isNone || !(fn.name == "runtime.NumGoroutine")) = true) (h4 : (eqs.all fun t => !P.stoodInHeld t && !P.eqGuardType P.depth t) = true)
    (h5 : P.follows .mixedOrders = true) : EOk (envOf fns tys eqs) P where
  fn := by
    intro f fn h
    have h' : fns.get f = some fn := h
    rw [h1, Tr.get_ofList] at h'
    simpa using h'
  call := by
    intro f fn args w h hb
    have h' : fns.get f = some fn := h
    rw [h1, Tr.get_ofList] at h'
    have hm := List.mem_of_getElem? h'
    have := (List.all_eq_true.1 h3) fn hm
    refine run_callFunc (by simpa using h') hb ?_ args w
    cases hn : (fn.name == "runtime.NumGoroutine") with
    | false => rfl
    | true => rw [hn] at this; cases hx : fn.body <;> simp_all
  ty := by
    intro t i h
    have h' : tys.get t = some i := h
    rw [h2, Tr.get_ofList] at h'
    show P.toTables.info? t = some i
    have hk : P.types[t]? = some i := by simpa using h'
    unfold Tables.info?
    rw [if_pos (Array.getElem?_eq_some_iff.1 hk).1]; exact hk
  eq := by
    intro t h
    have hm : t ∈ eqs := (memb_iff t eqs).1 h
    have := (List.all_eq_true.1 h4) t hm
    simp only [Bool.and_eq_true, Bool.not_eq_true'] at this
    exact this
  mixed := h5
  orc := by
    intro g args v h
    cases h
  ext := by
    intro g args h v h' e
    cases e
/-- An environment that knows more. -/
noncomputable def withOrc (E : Env) (o : Nat → List Value → Option Value) : Env := { E with orc := o }
noncomputable def withCut (E : Env) (c : Nat → Bool) : Env := { E with cut := c }
theorem eok_cut {E : Env} {P : Program} (ok : EOk E P) (c : Nat → Bool) : EOk (withCut E c) P where
  fn := ok.fn
  call := ok.call
  ty := ok.ty
  eq := ok.eq
  mixed := ok.mixed
  orc := ok.orc
  ext := ok.ext
theorem eok_with {E : Env} {P : Program} (ok : EOk E P) {o : Nat → List Value → Option Value} (ho : ∀ g args v, o g args = some v → (∃ fn, E.fn g = some fn ∧ fn.body.isSome = true) ∧ OrcAt P g args v) : EOk (withOrc E o) P where
  fn := ok.fn
  call := ok.call
  ty := ok.ty
  eq := ok.eq
  mixed := ok.mixed
  orc := ho
  ext := ok.ext
end Go.Ab
namespace Go.Ab
open Go.ChangeShapes Go.WideShapes
variable {H : Type} {enc : TypeId × Value → H} {P : Program}
theorem post_of_kept {f : Func} {s : ChangeSpec} {apart fresh handsOn again : Bool} {W W' : World} {args : Array Value} {v : Value} {ds gs : List (DataW H)} {before pa pv : List MemPlace}
    (hW : DataW.Whole enc P f.params.toList s.vars apart W args.toList ds gs before)
    (hres : ∀ (b : Nat) (sp : Nat → Bool) (hd : Bool), DataW.TrodAll enc P W' b sp hd f.resultTypes.toList (v.resultList f.resultTypes.size) (s.fn H (ds ++ gs)).results [])
    (hargs : ∀ sp : Nat → Bool, (∀ p ∈ before, sp p.block = true) → DataW.TrodAll enc P W' 0 sp true f.params.toList args.toList (s.fn H (ds ++ gs)).args pa)
    (hvars : ∀ sp : Nat → Bool, (∀ p ∈ before, sp p.block = true) → DataW.TrodVars enc P W' sp s.vars (s.fn H (ds ++ gs)).vars pv)
    (hps : before = pa ++ pv) (hk : Kept W W')
    (hok : ∀ (j : Nat) (t : TypeId) (r : Value), f.resultTypes[j]? = some t → (v.resultList f.resultTypes.size)[j]? = some r → Value.okWide P W' .any 0 t r) :
    s.post enc P f apart fresh handsOn again W args v W' := by
  have hold : ∀ p ∈ before, (fun b => decide (b < W.heap.size)) p.block = true := fun p hp => by simpa using hW.lt p hp
  refine ⟨ds, gs, before, [], pa, pv, hW, hres _ _ _, hargs _ hold, hvars _ hold, World.keptBut_mono (fun p hp => hp.elim) hk.1, fun _ => ?_⟩
  · have hlt := hW.lt
    obtain ⟨_, _, _, _, _, hz, hn⟩ := hW
    refine ⟨hok, _, _, ([] ++ pa) ++ pv, ⟨[] ++ pa, pv, trodAll_append (hargs _ (fun _ _ => rfl)) (hres _ _ _), hvars _ (fun _ _ => rfl), rfl, ?_, ?_⟩, ?_⟩
    · intro b off hp
      have hp' : MemPlace.cell b off ∈ before := by rw [hps]; simpa using hp
      rw [hk.2.1 _ (by have := hlt _ hp'; exact this)]
      exact hz b off hp'
    · intro ha
      have := hn ha
      rw [hps] at this
      simpa using this
    · intro p hp _
      rw [hps]
      simpa using hp
end Go.Ab

/- Reasoning on the evaluator: operations, calls. -/
namespace Go.Ab

/-- What a call leaves. -/
def CallQ (E : Env) (f : FuncId) (args : List Value) (rc : Option (Value × Bool)) (h : Hp) (Q : Out → Option (Value × Bool) → Hp → Prop) : Prop := ∃ o rc' h', (lim E).call f args rc h = some (o, rc', h') ∧ Q o rc' h'
/-- A call that returns. -/
def Ret (E : Env) (f : FuncId) (args : List Value) (h : Hp) (Q : Value → Hp → Prop) : Prop := ∃ v h', (lim E).call f args none h = some (.ret v, none, h') ∧ Q v h'
theorem Ret.mono {E : Env} {f : FuncId} {args : List Value} {h : Hp} {Q Q' : Value → Hp → Prop} (k : ∀ v h', Q v h' → Q' v h') (r : Ret E f args h Q) : Ret E f args h Q' := by
  obtain ⟨v, h', a, b⟩ := r; exact ⟨v, h', a, k v h' b⟩
/-- A function value's call that returns. -/
def RetV (E : Env) (fv : Value) (args : List Value) (h : Hp) (Q : Value → Hp → Prop) : Prop := ∃ g a b, fv = .func (.func g) a b ∧ Ret E g (a.toList ++ args ++ b.toList) h Q
/-- A round of a loop over a function. -/
def RoundQ (E : Env) (b : Nat) (args : List Value) (h : Hp) (Q : Out → Hp → Prop) : Prop := ∃ o h', roundStep E (lim E) b args h = some (o, h') ∧ Q o h'

section
variable (E : Env) (cx : Cx) (o : Oper) (l : Loc) (K : Ex → Loc → Hp → Prop)
def StepR : Option (ANext × Hp) → Prop
  | some (.val v, h') => K .normal (l.put o.dst v) h'
  | some (.skip, h') => K .normal (l.put o.dst (.tuple #[])) h'
  | some (.call f args, h') => CallQ E f args none h' fun x _ h'' => match x with
    | .ret v => K .normal (l.put o.dst v) h''
    | .pan v => K (.pan v) l h''
  | some (.yield b args, h') => RoundQ E b args h' fun x h'' => match x with
    | .ret v => K .normal (l.put o.dst v) h''
    | .pan v => K (.pan v) l h''
  | some (.panic v, h') => K (.pan v) l h'
  | some (.recov, h') => cx.round = none ∧ match l.rc with
    | some (v, false) => K .normal (({ l with rc := some (v, true) } : Loc).put o.dst v) h'
    | _ => K .normal (l.put o.dst .nilIface) h'
  | some (.defer d, h') => cx.round = none ∧ K .normal (({ l with dfs := d :: l.dfs } : Loc).put o.dst (.tuple #[])) h'
  | none => False
end
section
variable {E : Env} {cx : Cx} {o : Oper} {l : Loc} {K : Ex → Loc → Hp → Prop} {h : Hp}
theorem then_step : Then (stepOp E (lim E) cx o l h) K ↔ StepR E cx o l K (aop E l.ev h o.op) := by
  unfold stepOp
  cases hx : aop E l.ev h o.op with
  | none =>
    simp only [StepR, opVal, ofOut]
    exact ⟨fun ⟨_, _, _, h1, _⟩ => (by cases h1), fun h => h.elim⟩
  | some q =>
    obtain ⟨nx, h1⟩ := q
    cases nx with
    | val v => exact then_some
    | skip => exact then_some
    | panic v => exact then_some
    | call f args =>
      simp only [StepR, opVal, CallQ]
      constructor
      · intro ⟨e, l', h', a, b⟩
        cases hc : (lim E).call f args none h1 with
        | none => rw [hc] at a; cases a
        | some q =>
          obtain ⟨x, rc, h2⟩ := q
          rw [hc] at a
          cases x <;> (cases a; grind)
      · intro ⟨x, rc, h2, a, b⟩
        rw [a]
        cases x <;> exact ⟨_, _, _, rfl, b⟩
    | yield b args =>
      simp only [StepR, opVal, RoundQ]
      constructor
      · intro ⟨e, l', h', a, c⟩
        cases hc : roundStep E (lim E) b args h1 with
        | none => rw [hc] at a; cases a
        | some q =>
          obtain ⟨x, h2⟩ := q
          rw [hc] at a
          cases x <;> (cases a; grind)
      · intro ⟨x, h2, a, c⟩
        rw [a]
        cases x <;> exact ⟨_, _, _, rfl, c⟩
    | recov =>
      simp only [StepR]
      cases cx.round with
      | some r => simp only []; exact ⟨fun ⟨_, _, _, h1, _⟩ => (by cases h1), fun h => (by cases h.1)⟩
      | none =>
        simp only [true_and]
        grind[then_some]
    | defer d =>
      simp only [StepR]
      cases cx.round with
      | some r => simp only []; exact ⟨fun ⟨_, _, _, h1, _⟩ => (by cases h1), fun h => (by cases h.1)⟩
      | none => simp only [true_and]; exact then_some
theorem step_some_val {v : Value} : StepR E cx o l K (some (.val v, h)) ↔ K .normal (l.put o.dst v) h := Iff.rfl
theorem step_some_skip : StepR E cx o l K (some (.skip, h)) ↔ K .normal (l.put o.dst (.tuple #[])) h := Iff.rfl
theorem step_some_panic {v : Value} : StepR E cx o l K (some (.panic v, h)) ↔ K (.pan v) l h := Iff.rfl
theorem step_ret {f : FuncId} {args : List Value} {Q : Value → Hp → Prop} (hr : Ret E f args h Q) (hk : ∀ v h', Q v h' → K .normal (l.put o.dst v) h') : StepR E cx o l K (some (.call f args, h)) := by
  obtain ⟨v, h', a, b⟩ := hr
  exact ⟨.ret v, none, h', a, hk v h' b⟩
theorem step_ret_iff {f : FuncId} {args : List Value} : StepR E cx o l K (some (.call f args, h)) ↔ CallQ E f args none h fun x _ h'' => match x with
    | .ret v => K .normal (l.put o.dst v) h''
    | .pan v => K (.pan v) l h'' := Iff.rfl
end

/-! ### entering, leaving -/
def Leave (E : Env) (rs : List ResultVar) (Q : Out → Option (Value × Bool) → Hp → Prop) : Post
  | .exit _, _, _ => False
  | .pan v, l, h => ∃ m h', unwindA (lim E) l.dfs (some v) h = some (m, h') ∧ match m with
    | some v => Q (.pan v) l.rc h'
    | none => ∃ vs, readRes E l.regs h' rs = some vs ∧ Q (.ret (tupleOf vs)) l.rc h'
  | .normal, l, h => ∃ h', unwindA (lim E) l.dfs none h = some (none, h') ∧ ∃ vs, readRes E l.regs h' rs = some vs ∧ Q (.ret (tupleOf vs)) l.rc h'
  | .ret, l, h => ∃ h', unwindA (lim E) l.dfs none h = some (none, h') ∧ ∃ vs, readRes E l.regs h' rs = some vs ∧ Q (.ret (tupleOf vs)) l.rc h'

theorem enter {E : Env} {f : FuncId} {fn : Func} {body : Code} {n : Nat} {rs : List ResultVar} {args : List Value} {rc : Option (Value × Bool)} {h : Hp} {Q : Out → Option (Value × Bool) → Hp → Prop}
    (ho : E.pre f args h = none) (hf : E.fn f = some fn) (hb : fn.body = some body) (hn : fn.ntmps = n) (hrs : fn.results.toList = rs) (hle : args.length ≤ n)
    (hr : Run E (lim E) ⟨f, n, none⟩ (Leave E rs Q) [.code body] .normal (LL n (argR args) [] rc) h) : CallQ E f args rc h Q := by
  obtain ⟨e, l, h', h1, h2⟩ := hr
  simp only [Run] at h2
  unfold CallQ
  rw [call_eq]
  unfold callStep
  rw [ho]
  simp only []
  unfold callBody
  rw [hf]
  simp only []
  rw [hb]
  simp only []
  rw [hn, Nat.ble_eq_true_of_le hle]
  simp only [cond_true]
  rw [args_tab hle]
  have hcode : (lim E).code ⟨f, n, none⟩ body ⟨tab n (argR args), [], rc⟩ h = some (e, l, h') := by rw [code_eq]; exact h1
  rw [hcode, hrs]
  cases e with
  | exit i => exact h2.elim
  | pan v =>
    obtain ⟨m, h3, a, b⟩ := h2
    grind
  | normal => obtain ⟨h3, a, vs, c, d⟩ := h2; grind
  | ret => obtain ⟨h3, a, vs, c, d⟩ := h2; grind
/-- What a call that returns must bring. -/
def RetQ (Q : Value → Hp → Prop) : Out → Option (Value × Bool) → Hp → Prop
  | .ret v, none, h => Q v h
  | _, _, _ => False
theorem ret_of {E : Env} {f : FuncId} {args : List Value} {h : Hp} {Q : Value → Hp → Prop} (hq : CallQ E f args none h (RetQ Q)) : Ret E f args h Q := by
  obtain ⟨o, rc, h', a, b⟩ := hq
  cases o with
  | pan v => exact b.elim
  | ret v => cases rc with
    | none => exact ⟨v, h', a, b⟩
    | some y => exact b.elim
theorem enter_ret {E : Env} {f : FuncId} {fn : Func} {body : Code} {n : Nat} {rs : List ResultVar} {args : List Value} {h : Hp} {Q : Value → Hp → Prop}
    (ho : E.pre f args h = none) (hf : E.fn f = some fn) (hb : fn.body = some body) (hn : fn.ntmps = n) (hrs : fn.results.toList = rs) (hle : args.length ≤ n)
    (hr : Run E (lim E) ⟨f, n, none⟩ (Leave E rs (RetQ Q)) [.code body] .normal (LL n (argR args) [] none) h) : Ret E f args h Q := ret_of (enter ho hf hb hn hrs hle hr)
theorem ret_orc {E : Env} {f : FuncId} {args : List Value} {h h' : Hp} {v : Value} {Q : Value → Hp → Prop} (ho : E.pre f args h = some (v, h')) (hq : Q v h') : Ret E f args h Q := by
  refine ⟨v, h', ?_, hq⟩
  rw [call_eq]
  unfold callStep
  rw [ho]
section
variable {E : Env} {rs : List ResultVar} {Q : Value → Hp → Prop} {n : Nat} {ρ : Nat → Value} {h : Hp}
theorem leave_ret : Leave E rs (RetQ Q) .ret (LL n ρ [] none) h ↔ ∃ vs, readRes E (tab n ρ) h rs = some vs ∧ Q (tupleOf vs) h := by
  simp only [Leave, LL, unwindA]
  constructor
  · intro ⟨h', a, b⟩; cases a; exact b
  · intro b; exact ⟨h, rfl, b⟩
theorem leave_normal : Leave E rs (RetQ Q) .normal (LL n ρ [] none) h ↔ ∃ vs, readRes E (tab n ρ) h rs = some vs ∧ Q (tupleOf vs) h := leave_ret
theorem res_nil {P : List Value → Prop} : (∃ vs, readRes E (tab n ρ) h [] = some vs ∧ P vs) ↔ P [] := by
  simp only [readRes]
  grind
theorem res_tmp {t : Tmp} {P : List Value → Prop} (ht : t < n) : (∃ vs, readRes E (tab n ρ) h (.tmp t :: rs) = some vs ∧ P vs) ↔ ∃ vs, readRes E (tab n ρ) h rs = some vs ∧ P (ρ t :: vs) := by
  simp only [readRes, get_tab, if_pos ht]
  grind
theorem res_cell {t : Tmp} {ty : TypeId} {v : Value} {P : List Value → Prop} (ht : t < n) (hv : loadV E h ty (ρ t) = some v) : (∃ vs, readRes E (tab n ρ) h (.cell t ty :: rs) = some vs ∧ P vs) ↔ ∃ vs, readRes E (tab n ρ) h rs = some vs ∧ P (v :: vs) := by
  simp only [readRes, get_tab, if_pos ht, hv]
  grind
end
end Go.Ab

/- Reasoning on the evaluator: the heap. -/
namespace Go.Ab

/-- A heap that has new blocks at most. -/
structure Gr (h h' : Hp) : Prop where
  ok0 : h.t.Sized h.n
  ok : h'.t.Sized h'.n
  n : h.n ≤ h'.n
  get : ∀ b, b < h.n → h'.get b = h.get b
  lo : ∀ x, x ≤ h.n → x ≤ h.lo → x ≤ h'.lo
theorem Gr.refl {h : Hp} (ok : h.t.Sized h.n) : Gr h h := ⟨ok, ok, Nat.le_refl _, fun _ _ => rfl, fun _ _ h => h⟩
theorem Gr.trans {a b c : Hp} (x : Gr a b) (y : Gr b c) : Gr a c :=
  ⟨x.ok0, y.ok, Nat.le_trans x.n y.n, fun i hi => (y.get i (Nat.lt_of_lt_of_le hi x.n)).trans (x.get i hi), fun i h1 h2 => y.lo i (Nat.le_trans h1 x.n) (x.lo i h1 h2)⟩
theorem new_ok {h : Hp} (ok : h.t.Sized h.n) (x : Blk) : (h.new x).t.Sized (h.new x).n := Tr.sized_push x ok
theorem put_ok {h : Hp} (ok : h.t.Sized h.n) (b : Nat) (x : Blk) : (h.put b x).t.Sized (h.put b x).n := Tr.sized_set b x ok
theorem Gr.new {h : Hp} (ok : h.t.Sized h.n) (x : Blk) : Gr h (h.new x) :=
  ⟨ok, new_ok ok x, Nat.le_succ _, fun b hb => by rw [h.get_new x ok, if_neg (by omega)], fun _ _ h => h⟩
theorem Gr.snew {a h : Hp} (g : Gr a h) (x : Blk) : Gr a (h.new x) := g.trans (Gr.new g.ok x)
theorem Gr.put {a h : Hp} (g : Gr a h) {b : Nat} (hb : a.n ≤ b) (x : Blk) : Gr a (h.put b x) := by
  refine ⟨g.ok0, put_ok g.ok b x, g.n, fun i hi => ?_, fun i h1 h2 => ?_⟩
  · rw [Hp.get_put, if_neg (fun e => by omega)]; exact g.get i hi
  · have := g.lo i h1 h2
    show i ≤ nmin b h.lo
    grind[nmin,Nat.ble]
theorem lt_of_get {h : Hp} (ok : h.t.Sized h.n) {b : Nat} {x : Blk} (e : h.get b = some x) : b < h.n := (ok b).1 (by show (h.get b).isSome = true; rw [e]; rfl)
theorem Gr.at {h h' : Hp} (g : Gr h h') {b : Nat} {x : Blk} (e : h.get b = some x) : h'.get b = some x := by rw [g.get b (lt_of_get g.ok0 e)]; exact e
theorem lt_of_load {h : Hp} (ok : h.t.Sized h.n) {b o n : Nat} {l : List Value} (e : h.load b o n = some l) : b < h.n := by
  unfold Hp.load at e
  split at e
  next hg => exact lt_of_get ok hg
  next => cases e
theorem Gr.load {h h' : Hp} (g : Gr h h') {b o n : Nat} {l : List Value} (e : h.load b o n = some l) : h'.load b o n = some l := by
  have := g.get b (lt_of_load g.ok0 e)
  grind[Hp.load]
theorem Gr.hlo {h h' : Hp} (g : Gr { h with lo := h.n } h') : Nat.ble h.n h'.lo = true := Nat.ble_eq_true_of_le (g.lo h.n (Nat.le_refl _) (Nat.le_refl _))

/-! ### rows of cells -/
/-- Block b is a row of cells; md: may it be written? -/
def Row (h : Hp) (b : Nat) (l : List Value) (md : Nat) : Prop := ∃ t el, h.get b = some (.cells t l.length el md) ∧ t.Sized l.length ∧ ∀ i : Nat, t.get i = l[i]?
theorem Row.gr {h h' : Hp} (g : Gr h h') {b : Nat} {l : List Value} {md : Nat} (r : Row h b l md) : Row h' b l md := by
  obtain ⟨t, el, a, b, c⟩ := r; exact ⟨t, el, g.at a, b, c⟩
theorem Row.lt {h : Hp} (ok : h.t.Sized h.n) {b : Nat} {l : List Value} {md : Nat} (r : Row h b l md) : b < h.n := by
  obtain ⟨t, el, a, _, _⟩ := r; exact lt_of_get ok a
theorem slice_of {α : Type} {t : Tr α} {l : List α} (ht : ∀ i : Nat, t.get i = l[i]?) : ∀ (n o : Nat), o + n ≤ l.length → t.slice o n = some ((l.drop o).take n)
  | 0, o, _ => by simp [Tr.slice]
  | n + 1, o, h => by
    simp only [Tr.slice]
    have : l[o]? = some l[o] := List.getElem?_eq_getElem (by omega)
    rw [ht o, this, slice_of ht n (o + 1) (by omega)]
    simp only []
    congr 1
    rw [show List.drop o l = l[o] :: List.drop (o + 1) l from List.drop_eq_getElem_cons (by omega)]
    rfl
theorem Row.load {h : Hp} {b : Nat} {l : List Value} {md : Nat} (r : Row h b l md) {o n : Nat} (hn : o + n ≤ l.length) : h.load b o n = some ((l.drop o).take n) := by
  obtain ⟨t, el, a, _, c⟩ := r
  grind[Hp.load,Nat.ble_eq_true_of_le,slice_of]
theorem Row.load1 {h : Hp} {b : Nat} {l : List Value} {md : Nat} (r : Row h b l md) {o : Nat} {v : Value} (hv : l[o]? = some v) : h.load b o 1 = some [v] := by
  have hlt := (List.getElem?_eq_some_iff.1 hv).1
  rw [r.load (by omega)]
  grind[List.drop_eq_getElem_cons,List.getElem?_eq_some_iff]
theorem row_new {h : Hp} (ok : h.t.Sized h.n) (l : List Value) (el md : Nat) : Row (h.new (.cells (Tr.ofList l) l.length el md)) h.n l md :=
  ⟨Tr.ofList l, el, by rw [h.get_new _ ok, if_pos rfl], Tr.sized_ofList l, fun i => Tr.get_ofList l i⟩
/-- l with vs laid in from o on. -/
def lay (l : List Value) (o : Nat) (vs : List Value) : List Value := l.take o ++ vs ++ l.drop (o + vs.length)
theorem lay_length {l : List Value} {o : Nat} {vs : List Value} (h : o + vs.length ≤ l.length) : (lay l o vs).length = l.length := by simp [lay]; omega
theorem lay_get {l : List Value} {o : Nat} {vs : List Value} (h : o + vs.length ≤ l.length) (i : Nat) : (lay l o vs)[i]? = if o ≤ i ∧ i < o + vs.length then vs[i - o]? else l[i]? := by
  unfold lay
  by_cases h1 : i < o
  · grind
  grind
theorem Row.store {h : Hp} (ok : h.t.Sized h.n) {b : Nat} {l : List Value} {md : Nat} (r : Row h b l md) (hmd : md ≠ 0) {o : Nat} {vs : List Value} (ho : o + vs.length ≤ l.length) (hv : vs.all flatV = true) :
    ∃ x, h.store b o vs = some (h.put b x) ∧ Row (h.put b x) b (lay l o vs) md := by
  obtain ⟨t, el, a, d, c⟩ := r
  refine ⟨.cells (t.setAll o vs) l.length el md, ?_, ?_⟩
  · grind[Hp.store,Nat.beq,absurd,Nat.eq_of_beq_eq_true,Nat.ble_eq_true_of_le]
  · refine ⟨t.setAll o vs, el, ?_, ?_, fun i => ?_⟩
    · rw [Hp.get_put, if_pos ⟨rfl, by rw [a]; rfl⟩, lay_length ho]
    · rw [lay_length ho]; exact Tr.sized_setAll o vs d
    grind[Tr.get_setAll,lay_get]
theorem put_get_ne {h : Hp} {b b' : Nat} {x : Blk} (hne : b' ≠ b) : (h.put b x).get b' = h.get b' := get_put_ne (Ne.symm hne)
theorem Row.put_ne {h : Hp} {b b' : Nat} {x : Blk} {l : List Value} {md : Nat} (r : Row h b' l md) (hne : b' ≠ b) : Row (h.put b x) b' l md := by
  obtain ⟨t, el, a, c, d⟩ := r; exact ⟨t, el, by rw [put_get_ne hne]; exact a, c, d⟩
/-- One cell. -/
theorem lay_one (v w : Value) : lay [v] 0 [w] = [w] := rfl
end Go.Ab

/- An operation looks at its own operands alone. -/
namespace Go.Ab

theorem pop_ext {E : Env} {op : Op} {ρ ρ' : Operand → Value} (e : ∀ x ∈ op.operands.toList, ρ x = ρ' x) : pop E ρ op = pop E ρ' op := by
  cases op
  case build t ps =>
    grind[pop,List.map_congr_left,Op.operands]
  case makeFunc fn a b =>
    cases fn <;> (try rfl)
    grind[pop,Array.map_congr_left,Op.operands]
  case slice t x l h m =>
    simp only [pop]
    have hx := e x (by simp [Op.operands])
    have hl : l.map ρ = l.map ρ' := by cases l with | none => rfl | some y => simp [e y (by simp [Op.operands])]
    have hh : h.map ρ = h.map ρ' := by cases h with | none => rfl | some y => simp [e y (by simp [Op.operands])]
    have hm : m.map ρ = m.map ρ' := by cases m with | none => rfl | some y => simp [e y (by simp [Op.operands])]
    grind
  case call c =>
    have ha : c.args.toList.map ρ = c.args.toList.map ρ' := by
      grind[List.map_congr_left,Op.operands,Call.operands]
    grind[pop,invoke,builtin,List.mem_cons_self,Op.operands,Call.operands]
  all_goals (try rfl)
  all_goals first
    | (unfold Op.operands at e; simp at e; simp only [pop]; simp [e]; done)
    | (simp only [pop]; done)
    | (cases ‹Fn› <;> simp only [pop]; done)

theorem aop_ext {E : Env} {op : Op} {h : Hp} {ρ ρ' : Operand → Value} (e : ∀ x ∈ op.operands.toList, ρ x = ρ' x) : aop E ρ h op = aop E ρ' h op := by
  have hp := pop_ext (E := E) e
  cases op
  case buildSlice t n ps =>
    grind[aop,List.map_congr_left,Op.operands]
  case makeMap t r => cases r <;> simp only [aop, hp]
  case call c =>
    have ha : c.args.toList.map ρ = c.args.toList.map ρ' := by
      grind[List.map_congr_left,Op.operands,Call.operands]
    have hx : ∀ x ∈ c.args.toList, ρ x = ρ' x := by
      simp_all
    cases hc : c.callee with
    | value f =>
      grind[hf,Op.operands,Call.operands,aop]
    | invoke r n => simp only [aop, hc]
    | builtin b =>
      cases b <;> simp only [aop, hc, hp] <;> (try rfl)
      all_goals grind
  case defer c =>
    have ha : c.args.toList.map ρ = c.args.toList.map ρ' := by
      grind[List.map_congr_left,Op.operands,Call.operands]
    grind[hf,Op.operands,Call.operands,aop,invoke,builtin]
  all_goals first
    | (simp only [aop]; done)
    | (simp only [aop, hp]; done)
    | (unfold Op.operands at e; simp at e; simp only [aop, e]; done)
theorem touch_ext {op : Op} {ρ ρ' : Operand → Value} (e : ∀ x ∈ op.operands.toList, ρ x = ρ' x) : touch ρ op = touch ρ' op := by
  cases op
  case call c =>
    grind[touch,Op.operands,Call.operands]
  all_goals first
    | rfl
    | (unfold Op.operands at e; simp at e; simp only [touch, e]; done)
    | (simp only [touch]; done)
theorem evD_own (l : Loc) (op : Op) : ∀ x ∈ op.operands.toList, l.evD (tmpsOf op.operands.toList) x = l.ev x := by
  intro x hx
  cases x with
  | tmp t =>
    grind[Loc.evD,memb_iff,mem_tmpsOf]
  | _ => rfl

/-! ### operations of a region that draws its order -/
def StepN (E : Env) (K : Value → Hp → Prop) : Option (ANext × Hp) → Prop
  | some (.val v, h') => K v h'
  | some (.skip, h') => K (.tuple #[]) h'
  | some (.call f args, h') => CallQ E f args none h' fun x _ h'' => match x with
    | .ret v => K v h''
    | .pan _ => False
  | some (.yield b args, h') => RoundQ E b args h' fun x h'' => match x with
    | .ret v => K v h''
    | .pan _ => False
  | _ => False
theorem opVal_n {E : Env} {x : Option (ANext × Hp)} {K : Value → Hp → Prop} : (∃ v h', opVal E (lim E) x = some (.ret v, h') ∧ K v h') ↔ StepN E K x := by
  cases x with
  | none => exact ⟨fun ⟨_, _, a, _⟩ => (by cases a), fun h => h.elim⟩
  | some q =>
    obtain ⟨nx, h1⟩ := q
    cases nx with
    | val v => exact ⟨fun ⟨_, _, a, b⟩ => (by cases a; exact b), fun h => ⟨_, _, rfl, h⟩⟩
    | skip => exact ⟨fun ⟨_, _, a, b⟩ => (by cases a; exact b), fun h => ⟨_, _, rfl, h⟩⟩
    | panic v => exact ⟨fun ⟨_, _, a, _⟩ => (by cases a), fun h => h.elim⟩
    | recov => exact ⟨fun ⟨_, _, a, _⟩ => (by cases a), fun h => h.elim⟩
    | defer d => exact ⟨fun ⟨_, _, a, _⟩ => (by cases a), fun h => h.elim⟩
    | call f args =>
      simp only [StepN, opVal, CallQ]
      grind
    | yield b args =>
      grind[StepN,opVal,RoundQ]
theorem stepD_iff {E : Env} {l : Loc} {quiet : Bool} {o : Oper} {h : Hp} {K : Value → Hp → Prop} : (∃ v h', stepD E (lim E) (l.evD (tmpsOf o.op.operands.toList)) quiet o h = some (v, h') ∧ K v h') ↔
    (if quiet = true then StepN E (fun v h' => Nat.ble h.n h'.lo = true ∧ K v { h' with lo := h.lo }) (aop E l.ev { h with lo := h.n } o.op) else StepN E K (aop E l.ev h o.op)) := by
  have e := evD_own l o.op
  unfold stepD
  cases quiet with
  | false =>
    rw [if_neg (by simp)]
    simp only [cond_false]
    rw [aop_ext e, ← opVal_n]
    grind
  | true =>
    rw [if_pos rfl]
    simp only [cond_true]
    rw [aop_ext e, ← opVal_n]
    grind
theorem noteOf_ext {op : Op} {ρ ρ' : Operand → Value} {b : Bool} {h h' : Hp} (e : ∀ x ∈ op.operands.toList, ρ x = ρ' x) : noteOf ρ b op h h' = noteOf ρ' b op h h' := by
  unfold noteOf touchA; rw [touch_ext e]
theorem noteOf_quiet {op : Op} {ρ : Operand → Value} {h h' : Hp} : noteOf ρ true op h h' = noteOf ρ true op h h := rfl
theorem run_opsD {E : Env} {cx : Cx} {Q : Post} {k : List Fr} {l : Loc} {h : Hp} {a os : List Oper} {o : Oper} {q i : Nat} {ps : List (Nat × Nat)} {tr : List (Nat × Tch)} : Run E (lim E) cx Q (.opsD a q ps (o :: os) i tr :: k) .normal l h ↔ ∃ b, guardOk a l.regs o = some b ∧
    (if b = true then (if hush E q i o.op = true then
          StepN E (fun v h' => Nat.ble h.n h'.lo = true ∧ Run E (lim E) cx Q (.opsD a q ps os (i + 1) (noted i tr (noteOf l.ev true o.op h h)) :: k) .normal (l.put o.dst v) { h' with lo := h.lo }) (aop E l.ev { h with lo := h.n } o.op)
        else StepN E (fun v h' => Run E (lim E) cx Q (.opsD a q ps os (i + 1) (noted i tr (noteOf l.ev false o.op h h')) :: k) .normal (l.put o.dst v) h') (aop E l.ev h o.op))
      else Run E (lim E) cx Q (.opsD a q ps os (i + 1) tr :: k) .normal (l.put o.dst (.tuple #[])) h) := by
  rw [run_opsD_cons]
  simp only [noteOf_ext (evD_own l o.op), stepD_iff]
  cases hush E q i o.op with
  | true =>
    rfl
  | false => exact Iff.rfl
theorem stepN_val {E : Env} {K : Value → Hp → Prop} {v : Value} {h : Hp} : StepN E K (some (.val v, h)) ↔ K v h := Iff.rfl
theorem stepN_skip {E : Env} {K : Value → Hp → Prop} {h : Hp} : StepN E K (some (.skip, h)) ↔ K (.tuple #[]) h := Iff.rfl
theorem stepN_ret {E : Env} {K : Value → Hp → Prop} {f : FuncId} {args : List Value} {h : Hp} {Q : Value → Hp → Prop} (hr : Ret E f args h Q) (hk : ∀ v h', Q v h' → K v h') : StepN E K (some (.call f args, h)) := by
  obtain ⟨v, h', a, b⟩ := hr
  exact ⟨.ret v, none, h', a, hk v h' b⟩
end Go.Ab

/- The evaluator once more, in a shape that the kernel runs faster: recursors with small parts, continuations. -/
namespace Go.Ab
noncomputable section
abbrev Opt := Option (Ex × Loc × Hp)

def getK {α : Type} (t : Tr α) : Nat → Option α := Tr.rec (motive := fun _ => Nat → Option α) (fun _ => none)
  (fun x _ _ gl gr i => Nat.rec (some x) (fun n _ => Bool.rec (gr (n / 2)) (gl (n / 2)) (Nat.beq (n % 2) 0)) i) t
def setK {α : Type} (t : Tr α) : Nat → α → Tr α := Tr.rec (motive := fun _ => Nat → α → Tr α) (fun _ _ => .nil)
  (fun y l r sl sr i x => Nat.rec (.node x l r) (fun n _ => Bool.rec (.node y l (sr (n / 2) x)) (.node y (sl (n / 2) x) r) (Nat.beq (n % 2) 0)) i) t
def putK (l : Loc) (d : Option Tmp) (v : Value) : Loc := Option.rec l (fun t => Loc.mk (setK l.regs t v) l.dfs l.rc) d
def evK (l : Loc) (x : Operand) : Value := Operand.rec (motive := fun _ => Loc → Value) (fun t l => Option.rec (.tuple #[]) (fun v => v) (getK l.regs t)) (fun v _ => Bool.rec poison v (okConst v))
  (fun g _ => Bool.rec poison (.pointer (some ⟨g, 0, none⟩)) (Nat.blt g 16)) (fun f _ => .func (.func f) #[] #[]) x l
def exK (e : Ex) : (Loc → Hp → Opt) → (Ex → Loc → Hp → Opt) → Loc → Hp → Opt := Ex.rec (motive := fun _ => (Loc → Hp → Opt) → (Ex → Loc → Hp → Opt) → Loc → Hp → Opt)
  (fun kn _ l h => kn l h) (fun id _ ka l h => ka (.exit id) l h) (fun _ ka l h => ka .ret l h) (fun v _ ka l h => ka (.pan v) l h) e
def bind2 (x : Opt) (kn : Loc → Hp → Opt) (ka : Ex → Loc → Hp → Opt) : Opt := Option.rec none (fun q => Prod.rec (fun e q2 => Prod.rec (fun l h => exK e kn ka l h) q2) q) x
def asInt : Value → Option (IntKind × Int)
  | .int k n => some (k, n)
  | _ => none
def slowB : Env → BinOp → TypeId → Operand → Operand → Value → Value → Option Value := binP
abbrev BM := IntKind → Int → IntKind → Int → Option Value → Option Value
def arK (f : IntKind → Int → Int → Option Value) : BM := fun k m k' n _ => Bool.rec none (f k m n) (keqb k k')
def binI (op : BinOp) : BM := BinOp.rec (motive := fun _ => BM)
  (add := arK fun k x y => some (.int k (wrapI k (x + y)))) (sub := arK fun k x y => some (.int k (wrapI k (x - y)))) (mul := arK fun k x y => some (.int k (wrapI k (x * y))))
  (quo := fun _ _ _ _ s => s) (rem := fun _ _ _ _ s => s) (and := fun _ _ _ _ s => s) (or := fun _ _ _ _ s => s) (xor := fun _ _ _ _ s => s) (andNot := fun _ _ _ _ s => s) (shl := fun _ _ _ _ s => s) (shr := fun _ _ _ _ s => s)
  (eql := arK fun _ x y => some (.bool (ibeq x y))) (neq := arK fun _ x y => some (.bool (!ibeq x y))) (lss := arK fun _ x y => some (.bool (iblt x y))) (leq := arK fun _ x y => some (.bool (!iblt y x)))
  (gtr := arK fun _ x y => some (.bool (iblt y x))) (geq := arK fun _ x y => some (.bool (!iblt x y))) op
def binK (E : Env) (op : BinOp) (t : TypeId) (x y : Operand) (a b : Value) : Option Value :=
  Option.rec (binP E op t x y a b) (fun p => Option.rec (binP E op t x y a b) (fun q => binI op p.1 p.2 q.1 q.2 (binP E op t x y a b)) (asInt b)) (asInt a)
abbrev OpM := Env → Rec → Cx → Option Tmp → Loc → Hp → (Loc → Hp → Opt) → (Ex → Loc → Hp → Opt) → Opt
def retK (r : Option Value) (d : Option Tmp) (l : Loc) (h : Hp) (kn : Loc → Hp → Opt) : Opt := Option.rec none (fun v => kn (putK l d v) h) r
def retHK (r : Option (Hp × Value)) (d : Option Tmp) (l : Loc) (kn : Loc → Hp → Opt) : Opt := Option.rec none (fun p => Prod.rec (fun h v => kn (putK l d v) h) p) r
def retUK (r : Option Hp) (d : Option Tmp) (l : Loc) (kn : Loc → Hp → Opt) : Opt := Option.rec none (fun h => kn (putK l d (.tuple #[])) h) r
def slowK (op : Op) : OpM := fun E R cx d l h kn ka => bind2 (stepOp E R cx ⟨d, op, 0, "", #[], none⟩ l h) kn ka
def outK (o : Out) : Option Tmp → Loc → Hp → (Loc → Hp → Opt) → (Ex → Loc → Hp → Opt) → Opt := Out.rec (motive := fun _ => Option Tmp → Loc → Hp → (Loc → Hp → Opt) → (Ex → Loc → Hp → Opt) → Opt)
  (fun v d l h kn _ => kn (putK l d v) h) (fun v _ l h _ ka => ka (.pan v) l h) o
def resK (r : Option (Out × Option (Value × Bool) × Hp)) (d : Option Tmp) (l : Loc) (kn : Loc → Hp → Opt) (ka : Ex → Loc → Hp → Opt) : Opt := Option.rec none (fun q => Prod.rec (fun o q2 => Prod.rec (fun _ h => outK o d l h kn ka) q2) q) r
def asFn : Value → Option (FuncId × Array Value × Array Value)
  | .func (.func g) a b => some (g, a, b)
  | _ => none
def callK (c : Call) : OpM := fun E R cx d l h kn ka => Callee.rec (motive := fun _ => Opt)
  (fun f => Option.rec (slowK (.call c) E R cx d l h kn ka) (fun p => resK (R.call p.1 (p.2.1.toList ++ c.args.toList.map (evK l) ++ p.2.2.toList) none h) d l kn ka) (asFn (evK l f)))
  (fun _ _ => slowK (.call c) E R cx d l h kn ka) (fun _ => slowK (.call c) E R cx d l h kn ka) c.callee
def opK (op : Op) : OpM := Op.rec (motive := fun _ => OpM)
  (move := fun x _ _ _ d l h kn _ => kn (putK l d (evK l x)) h)
  (assign := fun x _ _ _ d l h kn _ => kn (putK l d (evK l x)) h)
  (pick := fun c a b => slowK (.pick c a b))
  (alloc := fun e => slowK (.alloc e))
  (box := fun e v => slowK (.box e v))
  (build := fun t ps => slowK (.build t ps))
  (buildSlice := fun t n ps => slowK (.buildSlice t n ps))
  (insert := fun t m k v => slowK (.insert t m k v))
  (load := fun t a E _ _ d l h kn _ => retK (loadV E h t (evK l a)) d l h kn)
  (store := fun t a v E _ _ d l h kn _ => retUK (storeV E h t (evK l a) (evK l v)) d l kn)
  (ready := fun g => slowK (.ready g))
  (waits := fun g => slowK (.waits g))
  (nilCheck := fun x => slowK (.nilCheck x))
  (binOp := fun op t x y u E _ _ d l h kn _ => retK (binK E op t x y (evK l x) (evK l y)) d l h kn)
  (unOp := fun op t x E _ _ d l h kn _ => retK (unP op (evK l x)) d l h kn)
  (convert := fun s t x => slowK (.convert s t x))
  (sliceToArrayPointer := fun t x => slowK (.sliceToArrayPointer t x))
  (makeInterface := fun t x => slowK (.makeInterface t x))
  (makeFunc := fun f a b => slowK (.makeFunc f a b))
  (makeMap := fun t r => slowK (.makeMap t r))
  (makeChan := fun t s => slowK (.makeChan t s))
  (makeSlice := fun t a c => slowK (.makeSlice t a c))
  (slice := fun t x a b c => slowK (.slice t x a b c))
  (fieldAddr := fun s x i E _ _ d l h kn _ => retK (fieldAddrP E s (evK l x) i) d l h kn)
  (field := fun t x i E _ _ d l h kn _ => retK (fieldP E t (evK l x) i) d l h kn)
  (indexAddr := fun t x i E _ _ d l h kn _ => retK (indexAddrP E t (evK l x) (evK l i)) d l h kn)
  (index := fun t x i E _ _ d l h kn _ => retK (indexP E t (evK l x) (evK l i)) d l h kn)
  (lookup := fun t m k ok E _ _ d l h kn _ => retK (lookupV E h t (evK l m) (evK l k) ok) d l h kn)
  (mapUpdate := fun t m k v E _ _ d l h kn _ => retUK (mapPut E h t (evK l m) (evK l k) (evK l v)) d l kn)
  (mapEntry := fun t m k E _ _ d l h kn _ => retHK (mapEnt E h t (evK l m) (evK l k)) d l kn)
  (entryStore := fun t m s v => slowK (.entryStore t m s v))
  (range := fun t x => slowK (.range t x))
  (next := fun i s => slowK (.next i s))
  (entry := fun i => slowK (.entry i))
  (typeAssert := fun x s t ok => slowK (.typeAssert x s t ok))
  (extract := fun t i => slowK (.extract t i))
  (call := fun c => callK c)
  (go := fun c => slowK (.go c))
  (defer := fun c => slowK (.defer c))
  (panic := fun x => slowK (.panic x))
  (send := fun c x => slowK (.send c x))
  (recv := fun t c ok => slowK (.recv t c ok))
  (select := fun cs b => slowK (.select cs b)) op
def guardK (ops : List Oper) (l : Loc) (o : Oper) : Option Bool := Option.rec (some true) (fun _ => guardOk ops l.regs o) o.guard
def opsK (E : Env) (R : Rec) (cx : Cx) (ops : List Oper) (kn : Loc → Hp → Opt) (ka : Ex → Loc → Hp → Opt) (os : List Oper) : Loc → Hp → Opt := List.rec (motive := fun _ => Loc → Hp → Opt) kn
  (fun o _ ih l h => Option.rec none (fun b => Bool.rec (ih (putK l o.dst (.tuple #[])) h) (opK o.op E R cx o.dst l h ih ka) b) (guardK ops l o)) os
/-- Operations that answer at once. -/
def fastOp (op : Op) : Bool := Op.rec (motive := fun _ => Bool)
  (move := fun _ => true) (assign := fun _ => true) (pick := fun _ _ _ => false) (alloc := fun _ => false) (box := fun _ _ => false) (build := fun _ _ => false) (buildSlice := fun _ _ _ => false)
  (insert := fun _ _ _ _ => false) (load := fun _ _ => true) (store := fun _ _ _ => true) (ready := fun _ => false) (waits := fun _ => false) (nilCheck := fun _ => false) (binOp := fun _ _ _ _ _ => true)
  (unOp := fun _ _ _ => true) (convert := fun _ _ _ => false) (sliceToArrayPointer := fun _ _ => false) (makeInterface := fun _ _ => false) (makeFunc := fun _ _ _ => false) (makeMap := fun _ _ => false)
  (makeChan := fun _ _ => false) (makeSlice := fun _ _ _ => false) (slice := fun _ _ _ _ _ => false) (fieldAddr := fun _ _ _ => true) (field := fun _ _ _ => true) (indexAddr := fun _ _ _ => true) (index := fun _ _ _ => true)
  (lookup := fun _ _ _ _ => true) (mapUpdate := fun _ _ _ _ => true) (mapEntry := fun _ _ _ => true) (entryStore := fun _ _ _ _ => false) (range := fun _ _ => false) (next := fun _ _ => false) (entry := fun _ => false)
  (typeAssert := fun _ _ _ _ => false) (extract := fun _ _ => false) (call := fun _ => false) (go := fun _ => false) (defer := fun _ => false) (panic := fun _ => false) (send := fun _ _ => false) (recv := fun _ _ _ => false)
  (select := fun _ _ => false) op
def hushK (E : Env) (q i : Nat) (op : Op) : Bool := Bool.rec (Bool.rec false (Nat.ble 3 (cls E op)) (Nat.testBit q i)) false (Nat.beq q 0)
def outDK (o : Out) : (Value → Hp → Opt) → Hp → Opt := Out.rec (motive := fun _ => (Value → Hp → Opt) → Hp → Opt) (fun v k h => k v h) (fun _ _ _ => none) o
def resDK (r : Option (Out × Option (Value × Bool) × Hp)) (k : Value → Hp → Opt) : Opt := Option.rec none (fun q => Prod.rec (fun o q2 => Prod.rec (fun _ h => outDK o k h) q2) q) r
/-- A step of a drawn region, by its own road. -/
def slowDK (E : Env) (R : Rec) (qb : Bool) (o : Oper) (l : Loc) (h : Hp) (k : Value → Hp → Opt) : Opt := Option.rec none (fun p => k p.1 p.2) (stepD E R l.ev qb o h)
def quietK (h : Hp) (k : Value → Hp → Opt) (v : Value) (h' : Hp) : Opt := Bool.rec none (k v { h' with lo := h.lo }) (Nat.ble h.n h'.lo)
def callDK (E : Env) (R : Rec) (qb : Bool) (o : Oper) (c : Call) (l : Loc) (h : Hp) (k : Value → Hp → Opt) : Opt := Callee.rec (motive := fun _ => Opt)
  (fun f => Option.rec (slowDK E R qb o l h k) (fun p => Bool.rec (resDK (R.call p.1 (p.2.1.toList ++ c.args.toList.map (evK l) ++ p.2.2.toList) none h) k)
    (resDK (R.call p.1 (p.2.1.toList ++ c.args.toList.map (evK l) ++ p.2.2.toList) none { h with lo := h.n }) (quietK h k)) qb) (asFn (evK l f)))
  (fun _ _ => slowDK E R qb o l h k) (fun _ => slowDK E R qb o l h k) c.callee
def asCall (op : Op) : Option Call := match op with
  | .call c => some c
  | _ => none
def elseDK (E : Env) (R : Rec) (qb : Bool) (o : Oper) (l : Loc) (h : Hp) (k : Value → Hp → Opt) : Opt := Option.rec (slowDK E R qb o l h k) (fun c => callDK E R qb o c l h k) (asCall o.op)
def touchK (l : Loc) (op : Op) : Option Tch := match touch (l.evD (tmpsOf op.operands.toList)) op with
  | none => none
  | some b => some (.blk b)
abbrev DM := Nat → Loc → Hp → List (Nat × Tch) → Opt
def stepDK (E : Env) (R : Rec) (cx : Cx) (q : Nat) (o : Oper) (ih : DM) (i : Nat) (l : Loc) (h : Hp) (tr : List (Nat × Tch)) : Opt :=
  Bool.rec (elseDK E R (hushK E q i o.op) o l h fun v h' => ih (i + 1) (putK l o.dst v) h' (noted i tr (noteOf (l.evD (tmpsOf o.op.operands.toList)) (hushK E q i o.op) o.op h h')))
    (Bool.rec (opK o.op E R cx o.dst l h (fun l' h' => ih (i + 1) l' h' (noted i tr (touchK l o.op))) (fun _ _ _ => none))
      (slowDK E R true o l h fun v h' => ih (i + 1) (putK l o.dst v) h' (noted i tr (touchK l o.op))) (hushK E q i o.op)) (fastOp o.op)
def opsDK (E : Env) (R : Rec) (cx : Cx) (ops : List Oper) (q : Nat) (fin : DM) (os : List Oper) : DM := List.rec (motive := fun _ => DM) fin
  (fun o _ ih i l h tr => Option.rec none (fun b => Bool.rec (ih (i + 1) (putK l o.dst (.tuple #[])) h tr) (stepDK E R cx q o ih i l h tr) b) (guardK ops l o)) os
def drawKo (E : Env) (R : Rec) (cx : Cx) (ops : List Oper) (l : Loc) (h : Hp) (kn : Loc → Hp → Opt) : Opt :=
  Option.rec none (fun p => opsDK E R cx ops p.1 (fun _ l h tr => Bool.rec none (kn l h) (pairsOk tr p.2)) ops 0 l h []) (plan E ops)
def drawK (E : Env) (R : Rec) (cx : Cx) (ops : List Oper) (l : Loc) (h : Hp) (kn : Loc → Hp → Opt) : Opt := drawKo E R cx (hoist ops) l h kn

abbrev CodeM := Cx → Code → Loc → Hp → (Loc → Hp → Opt) → (Ex → Loc → Hp → Opt) → Opt
def asBool : Value → Option Bool
  | .bool b => some b
  | _ => none
def blkK (e : Ex) : Nat → (Loc → Hp → Opt) → (Ex → Loc → Hp → Opt) → Loc → Hp → Opt := Ex.rec (motive := fun _ => Nat → (Loc → Hp → Opt) → (Ex → Loc → Hp → Opt) → Loc → Hp → Opt)
  (fun _ kn _ l h => kn l h) (fun i id kn ka l h => Bool.rec (ka (.exit i) l h) (kn l h) (Nat.beq i id)) (fun _ _ ka l h => ka .ret l h) (fun v _ _ ka l h => ka (.pan v) l h) e
def codeK (E : Env) (R : Rec) (M : CodeM) (cx : Cx) (c : Code) : Loc → Hp → (Loc → Hp → Opt) → (Ex → Loc → Hp → Opt) → Opt := Code.rec (motive := fun _ => Loc → Hp → (Loc → Hp → Opt) → (Ex → Loc → Hp → Opt) → Opt)
  (skip := fun l h kn _ => kn l h)
  (region := fun _ ops draw l h kn ka => Bool.rec (opsK E R cx ops.toList kn ka ops.toList l h) (Bool.rec (drawK E R cx ops.toList l h kn) (bind2 (cutD E R cx ops.toList l h) kn ka) (E.cut cx.fn)) draw)
  (seq := fun _ _ iha ihb l h kn ka => iha l h (fun l h => ihb l h kn ka) ka)
  (cond := fun c _ _ iha ihb l h kn ka => Option.rec none (fun t => Bool.rec (ihb l h kn ka) (iha l h kn ka) t) (asBool (evK l c)))
  (block := fun id _ ih l h kn ka => ih l h kn (fun e l h => blkK e id kn ka l h))
  (loop := fun b ih l h kn ka => ih l h (fun l h => M cx (.loop b) l h kn ka) ka)
  (rangeFunc := fun f ps asg body _ _ l h kn ka => bind2 (rangeStep R cx (evK l f) ps asg body l h) kn ka)
  (exit := fun id l h _ ka => ka (.exit id) l h)
  (scope := fun _ ih l h kn ka => ih l h kn ka)
  (label := fun _ l h kn _ => kn l h)
  (goto := fun _ _ _ _ _ => none)
  (ret := fun l h _ ka => ka .ret l h)
  (refuse := fun _ _ _ _ _ => none) c
abbrev ResK := Option (Out × Option (Value × Bool) × Hp)
def slowDone (E : Env) (R : Rec) (fn : Func) (l : Loc) (h' : Hp) : ResK := match unwindA R l.dfs none h' with
  | some (none, h'') => match readRes E l.regs h'' fn.results.toList with
    | none => none
    | some vs => some (.ret (tupleOf vs), l.rc, h'')
  | _ => none
def doneK (E : Env) (R : Rec) (fn : Func) (l : Loc) (h : Hp) : ResK := List.rec (motive := fun _ => ResK)
  (Option.rec none (fun vs => some (.ret (tupleOf vs), l.rc, h)) (readRes E l.regs h fn.results.toList)) (fun _ _ _ => slowDone E R fn l h) l.dfs
def slowPan (E : Env) (R : Rec) (fn : Func) (v : Value) (l : Loc) (h' : Hp) : ResK := match unwindA R l.dfs (some v) h' with
  | none => none
  | some (some v, h'') => some (.pan v, l.rc, h'')
  | some (none, h'') => match readRes E l.regs h'' fn.results.toList with
    | none => none
    | some vs => some (.ret (tupleOf vs), l.rc, h'')
def exLeave (e : Ex) : Env → Rec → Func → Loc → Hp → ResK := Ex.rec (motive := fun _ => Env → Rec → Func → Loc → Hp → ResK) doneK (fun _ _ _ _ _ _ => none) doneK (fun v E R fn l h => slowPan E R fn v l h) e
def leaveK (E : Env) (R : Rec) (fn : Func) (r : Opt) : ResK := Option.rec none (fun q => Prod.rec (fun e q2 => Prod.rec (fun l h => exLeave e E R fn l h) q2) q) r
def callFn (E : Env) (R : Rec) (f : FuncId) (args : List Value) (rc : Option (Value × Bool)) (h : Hp) (fn : Func) (body : Code) : ResK :=
  Bool.rec none (leaveK E R fn (R.code ⟨f, fn.ntmps, none⟩ body ⟨(Tr.blank (.tuple #[]) fn.ntmps fn.ntmps).setAll 0 args, [], rc⟩ h)) (Nat.ble args.length fn.ntmps)
def callBK (E : Env) (R : Rec) (f : FuncId) (args : List Value) (rc : Option (Value × Bool)) (h : Hp) : ResK :=
  Option.rec none (fun fn => Option.rec none (fun body => callFn E R f args rc h fn body) fn.body) (E.fn f)
def callSK (E : Env) (R : Rec) (f : FuncId) (args : List Value) (rc : Option (Value × Bool)) (h : Hp) : ResK :=
  Option.rec (callBK E R f args rc h) (fun q => Option.rec (some (.ret q.1, none, q.2)) (fun _ => none) rc) (E.pre f args h)
structure RK where
  call : FuncId → List Value → Option (Value × Bool) → Hp → ResK
  code : CodeM
def RK.rec' (K : RK) : Rec := ⟨K.call, fun cx c l h => K.code cx c l h (fun l h => some (.normal, l, h)) (fun e l h => some (e, l, h))⟩
def botK : RK := ⟨fun _ _ _ _ => none, fun _ _ _ _ _ _ => none⟩
def nextRK (E : Env) (K : RK) : RK := ⟨fun f args rc h => callSK E K.rec' f args rc h, fun cx c l h kn ka => codeK E K.rec' K.code cx c l h kn ka⟩
def runK (E : Env) (n : Nat) : RK := Nat.rec botK (fun _ K => nextRK E K) n
/-- An environment, for the kernel. -/
def envK (fns : Tr Func) (tys : Tr TypeInfo) (eqs : List Nat) : Env := { fn := fun f => getK fns f, ty := fun t => getK tys t, eqok := fun t => memb t eqs }
/-- The heap at the outset. -/
def hpK : Hp := { n := 16, t := Tr.ofList (List.replicate 16 .dead), lo := 16 }
end
end Go.Ab

/- The evaluator for the kernel is the evaluator: operations, regions. -/
namespace Go.Ab
noncomputable section
theorem getK_eq {α : Type} (t : Tr α) (i : Nat) : getK t i = t.get i := rfl
theorem setK_eq {α : Type} (t : Tr α) (i : Nat) (x : α) : setK t i x = t.set i x := rfl

theorem putK_eq (l : Loc) (d : Option Tmp) (v : Value) : putK l d v = l.put d v := by
  cases d with
  | none => rfl
  | some t => show Loc.mk (setK l.regs t v) l.dfs l.rc = _; rw [setK_eq]; rfl
theorem evK_eq (l : Loc) : evK l = l.ev := by
  funext x
  cases x with
  | tmp t =>
    show Option.rec (motive := fun _ => Value) _ _ (getK l.regs t) = _
    rw [getK_eq]
    simp only [Loc.ev]
    cases l.regs.get t <;> rfl
  | const v => simp only [Loc.ev]; show Bool.rec (motive := fun _ => Value) poison v (okConst v) = _; cases okConst v <;> rfl
  | global g => simp only [Loc.ev]; show Bool.rec (motive := fun _ => Value) poison _ (Nat.blt g 16) = _; cases Nat.blt g 16 <;> rfl
  | func f => rfl

/-! ### continuations -/
theorem bind2_normal (l : Loc) (h : Hp) (kn : Loc → Hp → Opt) (ka : Ex → Loc → Hp → Opt) : bind2 (some (.normal, l, h)) kn ka = kn l h := rfl
theorem bind2_id (x : Opt) : bind2 x (fun l h => some (.normal, l, h)) (fun e l h => some (e, l, h)) = x := by
  cases x with
  | none => rfl
  | some q => obtain ⟨e, l, h⟩ := q; cases e <;> rfl
theorem bind2_bind (x : Opt) (k1 : Loc → Hp → Opt) (a1 : Ex → Loc → Hp → Opt) (kn : Loc → Hp → Opt) (ka : Ex → Loc → Hp → Opt) (ha : ∀ e l h, e ≠ .normal → a1 e l h = ka e l h) :
    bind2 x (fun l h => bind2 (k1 l h) kn ka) a1 = bind2 (match x with
      | some (.normal, l, h) => k1 l h
      | r => r) kn ka := by
  cases x with
  | none => rfl
  | some q =>
    obtain ⟨e, l, h⟩ := q
    cases e with
    | normal => rfl
    | exit i => exact ha _ _ _ (by simp)
    | ret => exact ha _ _ _ (by simp)
    | pan v => exact ha _ _ _ (by simp)

/-! ### operations -/
theorem binK_eq (E : Env) (op : BinOp) (t : TypeId) (x y : Operand) (a b : Value) : binK E op t x y a b = binP E op t x y a b := by
  cases a <;> (try rfl)
  cases b <;> (try rfl)
  rename_i k m k' n
  cases op <;> (try rfl)
  all_goals (show Bool.rec (motive := fun _ => Option Value) none _ (keqb k k') = (bif keqb k k' then _ else none); cases keqb k k' <;> rfl)

theorem slow_eq (E : Env) (R : Rec) (cx : Cx) (o : Oper) (l : Loc) (h : Hp) (kn : Loc → Hp → Opt) (ka : Ex → Loc → Hp → Opt) : slowK o.op E R cx o.dst l h kn ka = bind2 (stepOp E R cx o l h) kn ka := rfl
theorem retK_eq (r : Option Value) (o : Oper) (l : Loc) (h : Hp) (E : Env) (R : Rec) (kn : Loc → Hp → Opt) (ka : Ex → Loc → Hp → Opt) : retK r o.dst l h kn = bind2 (ofOut o l (opVal E R (wrapR h r))) kn ka := by
  cases r with
  | none => rfl
  | some v => show kn (putK l o.dst v) h = kn (l.put o.dst v) h; rw [putK_eq]
theorem retHK_eq (r : Option (Hp × Value)) (o : Oper) (l : Loc) (E : Env) (R : Rec) (kn : Loc → Hp → Opt) (ka : Ex → Loc → Hp → Opt) : retHK r o.dst l kn = bind2 (ofOut o l (opVal E R (wrapV r))) kn ka := by
  cases r with
  | none => rfl
  | some p => obtain ⟨h, v⟩ := p; show kn (putK l o.dst v) h = kn (l.put o.dst v) h; rw [putK_eq]
theorem retUK_eq (r : Option Hp) (o : Oper) (l : Loc) (E : Env) (R : Rec) (kn : Loc → Hp → Opt) (ka : Ex → Loc → Hp → Opt) : retUK r o.dst l kn = bind2 (ofOut o l (opVal E R (wrapU r))) kn ka := by
  cases r with
  | none => rfl
  | some h => show kn (putK l o.dst (.tuple #[])) h = kn (l.put o.dst (.tuple #[])) h; rw [putK_eq]
theorem resK_eq (R : Rec) (g : FuncId) (args : List Value) (o : Oper) (l : Loc) (h : Hp) (E : Env) (kn : Loc → Hp → Opt) (ka : Ex → Loc → Hp → Opt) :
    resK (R.call g args none h) o.dst l kn ka = bind2 (ofOut o l (opVal E R (some (.call g args, h)))) kn ka := by
  simp only [opVal]
  cases R.call g args none h with
  | none => rfl
  | some q =>
    obtain ⟨x, rc, h2⟩ := q
    cases x with
    | ret v => show kn (putK l o.dst v) h2 = kn (l.put o.dst v) h2; rw [putK_eq]
    | pan v => rfl
/-- A step of an operation that answers at once. -/
theorem step_plain {E : Env} {R : Rec} {cx : Cx} {o : Oper} {l : Loc} {h : Hp} {x : Option (ANext × Hp)} (hx : aop E l.ev h o.op = x) (hn : ∀ h', x ≠ some (.recov, h')) (hd : ∀ d h', x ≠ some (.defer d, h')) : stepOp E R cx o l h = ofOut o l (opVal E R x) := by
  unfold stepOp
  rw [hx]
  split
  · exact absurd rfl (hn _)
  · exact absurd rfl (hd _ _)
  · rfl
theorem wrapR_ne {h : Hp} {r : Option Value} : (∀ h', wrapR h r ≠ some (.recov, h')) ∧ ∀ d h', wrapR h r ≠ some (.defer d, h') := by cases r <;> exact ⟨by intros; simp [wrapR], by intros; simp [wrapR]⟩
theorem wrapV_ne {r : Option (Hp × Value)} : (∀ h', wrapV r ≠ some (.recov, h')) ∧ ∀ d h', wrapV r ≠ some (.defer d, h') := by cases r <;> exact ⟨by intros; simp [wrapV], by intros; simp [wrapV]⟩
theorem wrapU_ne {r : Option Hp} : (∀ h', wrapU r ≠ some (.recov, h')) ∧ ∀ d h', wrapU r ≠ some (.defer d, h') := by cases r <;> exact ⟨by intros; simp [wrapU], by intros; simp [wrapU]⟩
theorem opK_eq (E : Env) (R : Rec) (cx : Cx) (o : Oper) (l : Loc) (h : Hp) (kn : Loc → Hp → Opt) (ka : Ex → Loc → Hp → Opt) : opK o.op E R cx o.dst l h kn ka = bind2 (stepOp E R cx o l h) kn ka := by
  have hr : ∀ r, aop E l.ev h o.op = wrapR h r → retK r o.dst l h kn = bind2 (stepOp E R cx o l h) kn ka := fun r hx => by rw [step_plain hx wrapR_ne.1 wrapR_ne.2]; exact retK_eq r o l h E R kn ka
  have hv : ∀ r, aop E l.ev h o.op = wrapV r → retHK r o.dst l kn = bind2 (stepOp E R cx o l h) kn ka := fun r hx => by rw [step_plain hx wrapV_ne.1 wrapV_ne.2]; exact retHK_eq r o l E R kn ka
  have hu : ∀ r, aop E l.ev h o.op = wrapU r → retUK r o.dst l kn = bind2 (stepOp E R cx o l h) kn ka := fun r hx => by rw [step_plain hx wrapU_ne.1 wrapU_ne.2]; exact retUK_eq r o l E R kn ka
  obtain ⟨dst, op, ty, pos, after, guard⟩ := o
  simp only [] at hr hv hu ⊢
  cases op
  case move x =>
    have := hr (some (l.ev x)) rfl
    rw [← this]
    show kn (putK l dst (evK l x)) h = kn (putK l dst (l.ev x)) h
    rw [evK_eq]
  case assign x =>
    have := hr (some (l.ev x)) rfl
    rw [← this]
    show kn (putK l dst (evK l x)) h = kn (putK l dst (l.ev x)) h
    rw [evK_eq]
  case load t a => rw [← hr _ rfl]; show retK (loadV E h t (evK l a)) dst l h kn = _; rw [evK_eq]
  case store t a v => rw [← hu _ rfl]; show retUK (storeV E h t (evK l a) (evK l v)) dst l kn = _; rw [evK_eq]
  case binOp b t x y u => rw [← hr (binP E b t x y (l.ev x) (l.ev y)) rfl]; show retK (binK E b t x y (evK l x) (evK l y)) dst l h kn = _; rw [evK_eq, binK_eq]
  case unOp b t x => rw [← hr (unP b (l.ev x)) rfl]; show retK (unP b (evK l x)) dst l h kn = _; rw [evK_eq]
  case fieldAddr t x i => rw [← hr (fieldAddrP E t (l.ev x) i) rfl]; show retK (fieldAddrP E t (evK l x) i) dst l h kn = _; rw [evK_eq]
  case field t x i => rw [← hr (fieldP E t (l.ev x) i) rfl]; show retK (fieldP E t (evK l x) i) dst l h kn = _; rw [evK_eq]
  case indexAddr t x i => rw [← hr (indexAddrP E t (l.ev x) (l.ev i)) rfl]; show retK (indexAddrP E t (evK l x) (evK l i)) dst l h kn = _; rw [evK_eq]
  case index t x i => rw [← hr (indexP E t (l.ev x) (l.ev i)) rfl]; show retK (indexP E t (evK l x) (evK l i)) dst l h kn = _; rw [evK_eq]
  case lookup t m k b => rw [← hr _ rfl]; show retK (lookupV E h t (evK l m) (evK l k) b) dst l h kn = _; rw [evK_eq]
  case mapUpdate t m k v => rw [← hu _ rfl]; show retUK (mapPut E h t (evK l m) (evK l k) (evK l v)) dst l kn = _; rw [evK_eq]
  case mapEntry t m k => rw [← hv _ rfl]; show retHK (mapEnt E h t (evK l m) (evK l k)) dst l kn = _; rw [evK_eq]
  case call c =>
    show callK c E R cx dst l h kn ka = _
    unfold callK
    cases hc : c.callee with
    | invoke r n => rfl
    | builtin b => rfl
    | value f =>
      show Option.rec (motive := fun _ => Opt) (slowK (.call c) E R cx dst l h kn ka) _ (asFn (evK l f)) = _
      rw [evK_eq]
      cases hf : asFn (l.ev f) with
      | none => rfl
      | some p =>
        obtain ⟨g, a, b⟩ := p
        have hv : l.ev f = .func (.func g) a b := by
          unfold asFn at hf
          split at hf
          · rename_i he; cases hf; exact he
          · cases hf
        have hx : aop E l.ev h (.call c) = some (.call g (a.toList ++ c.args.toList.map l.ev ++ b.toList), h) := by simp only [aop, hc, hv, target]
        rw [step_plain (o := ⟨dst, .call c, ty, pos, after, guard⟩) hx (by intro h' e; cases e) (by intro d h' e; cases e)]
        exact resK_eq R g _ ⟨dst, .call c, ty, pos, after, guard⟩ l h E kn ka
  all_goals rfl

/-! ### regions -/
theorem guardK_eq (ops : List Oper) (l : Loc) (o : Oper) : guardK ops l o = guardOk ops l.regs o := by
  unfold guardK
  cases hg : o.guard with
  | none => unfold guardOk; rw [hg]
  | some q => rfl
theorem opsK_eq (E : Env) (R : Rec) (cx : Cx) (ops : List Oper) (kn : Loc → Hp → Opt) (ka : Ex → Loc → Hp → Opt) : ∀ (os : List Oper) (l : Loc) (h : Hp), opsK E R cx ops kn ka os l h = bind2 (evOps E R cx ops os l h) kn ka
  | [], l, h => rfl
  | o :: os, l, h => by
    have ih := opsK_eq E R cx ops kn ka os
    show Option.rec (motive := fun _ => Opt) none (fun b => Bool.rec (opsK E R cx ops kn ka os (putK l o.dst (.tuple #[])) h) (opK o.op E R cx o.dst l h (opsK E R cx ops kn ka os) ka) b) (guardK ops l o) = _
    rw [guardK_eq]
    simp only [evOps]
    cases guardOk ops l.regs o with
    | none => rfl
    | some b =>
      cases b with
      | false => show opsK E R cx ops kn ka os (putK l o.dst (.tuple #[])) h = _; rw [ih, putK_eq]
      | true =>
        show opK o.op E R cx o.dst l h (opsK E R cx ops kn ka os) ka = _
        rw [opK_eq, show opsK E R cx ops kn ka os = fun l h => bind2 (evOps E R cx ops os l h) kn ka from funext fun l => funext fun h => ih l h]
        rw [bind2_bind _ _ _ _ _ (fun _ _ _ _ => rfl)]
        simp only []
        cases stepOp E R cx o l h with
        | none => rfl
        | some q => obtain ⟨e, l', h'⟩ := q; cases e <;> rfl

end
end Go.Ab

/- The evaluator for the kernel is the evaluator: drawn regions, code, calls. -/
namespace Go.Ab
noncomputable section

/-! ### regions that draw their order -/
theorem stepD_ext (E : Env) (R : Rec) (l : Loc) (qb : Bool) (o : Oper) (h : Hp) : stepD E R (l.evD (tmpsOf o.op.operands.toList)) qb o h = stepD E R l.ev qb o h := by
  unfold stepD
  rw [aop_ext (evD_own l o.op), aop_ext (evD_own l o.op)]
theorem fast_step {E : Env} {R : Rec} {cx : Cx} {o : Oper} {l : Loc} {h : Hp} (hf : fastOp o.op = true) {K : Value → Hp → Opt} :
    bind2 (stepOp E R cx o l h) (fun l' h' => none) (fun _ _ _ => none) = none ∧
    ∀ kn : Loc → Hp → Opt, bind2 (stepOp E R cx o l h) kn (fun _ _ _ => none) = (match stepD E R l.ev false o h with
      | none => none
      | some (v, h') => kn (l.put o.dst v) h') := by
  have key : ∀ x, aop E l.ev h o.op = x → ((∃ h0 r, x = wrapR h0 r) ∨ (∃ r, x = wrapV r) ∨ ∃ r, x = wrapU r) → ∀ kn : Loc → Hp → Opt, bind2 (stepOp E R cx o l h) kn (fun _ _ _ => none) = (match stepD E R l.ev false o h with
      | none => none
      | some (v, h') => kn (l.put o.dst v) h') := by
    intro x hx hs kn
    have hn : (∀ h', x ≠ some (.recov, h')) ∧ ∀ d h', x ≠ some (.defer d, h') := by
      rcases hs with ⟨h0, r, rfl⟩ | ⟨r, rfl⟩ | ⟨r, rfl⟩
      · exact wrapR_ne
      · exact wrapV_ne
      · exact wrapU_ne
    rw [step_plain hx hn.1 hn.2]
    simp only [stepD, cond_false, hx]
    rcases hs with ⟨h0, r, rfl⟩ | ⟨r, rfl⟩ | ⟨r, rfl⟩ <;> cases r <;> rfl
  have kind : (∃ h0 r, aop E l.ev h o.op = wrapR h0 r) ∨ (∃ r, aop E l.ev h o.op = wrapV r) ∨ ∃ r, aop E l.ev h o.op = wrapU r := by
    obtain ⟨dst, op, ty, pos, after, guard⟩ := o
    simp only [] at hf ⊢
    cases op <;> (try (cases hf; done))
    all_goals first
      | exact .inl ⟨h, some (l.ev _), rfl⟩
      | exact .inl ⟨h, _, rfl⟩
      | exact .inr (.inl ⟨_, rfl⟩)
      | exact .inr (.inr ⟨_, rfl⟩)
  refine ⟨?_, key _ rfl kind⟩
  rw [key _ rfl kind]
  cases stepD E R l.ev false o h <;> rfl
theorem hushK_eq (E : Env) (q i : Nat) (op : Op) : hushK E q i op = hush E q i op := by
  unfold hushK hush
  cases hq : Nat.beq q 0 with
  | true =>
    have : q = 0 := Nat.eq_of_beq_eq_true hq
    subst this
    simp
  | false => cases Nat.testBit q i <;> rfl
theorem elseDK_eq (E : Env) (R : Rec) (qb : Bool) (o : Oper) (l : Loc) (h : Hp) (k : Value → Hp → Opt) : elseDK E R qb o l h k = slowDK E R qb o l h k := by
  unfold elseDK
  cases hc : asCall o.op with
  | none => rfl
  | some c =>
    show callDK E R qb o c l h k = _
    have ho : o.op = .call c := by
      unfold asCall at hc
      split at hc
      · rename_i he; cases hc; exact he
      · cases hc
    unfold callDK
    cases hcc : c.callee with
    | invoke r n => rfl
    | builtin b => rfl
    | value f =>
      show Option.rec (motive := fun _ => Opt) (slowDK E R qb o l h k) _ (asFn (evK l f)) = _
      rw [evK_eq]
      cases hf : asFn (l.ev f) with
      | none => rfl
      | some p =>
        obtain ⟨g, a, b⟩ := p
        have hv : l.ev f = .func (.func g) a b := by
          unfold asFn at hf
          split at hf
          · rename_i he; cases hf; exact he
          · cases hf
        have hx : ∀ h, aop E l.ev h o.op = some (.call g (a.toList ++ c.args.toList.map l.ev ++ b.toList), h) := by intro h; rw [ho]; simp only [aop, hcc, hv, target]
        unfold slowDK stepD
        cases qb with
        | false =>
          simp only [cond_false, hx, opVal]
          show resDK (R.call g (a.toList ++ c.args.toList.map l.ev ++ b.toList) none h) k = _
          cases R.call g (a.toList ++ c.args.toList.map l.ev ++ b.toList) none h with
          | none => rfl
          | some q => obtain ⟨x, rc, h2⟩ := q; cases x <;> rfl
        | true =>
          simp only [cond_true, hx, opVal]
          show resDK (R.call g (a.toList ++ c.args.toList.map l.ev ++ b.toList) none { h with lo := h.n }) (quietK h k) = _
          cases R.call g (a.toList ++ c.args.toList.map l.ev ++ b.toList) none { h with lo := h.n } with
          | none => rfl
          | some q =>
            obtain ⟨x, rc, h2⟩ := q
            cases x with
            | pan v => rfl
            | ret v =>
              show quietK h k v h2 = _
              simp only [quietK]
              cases Nat.ble h.n h2.lo <;> rfl
theorem fast_notRun {op : Op} (h : fastOp op = true) : isRun op = false := by
  cases op <;> first | rfl | exact absurd h (by simp [fastOp])
theorem opsDK_eq (E : Env) (R : Rec) (cx : Cx) (ops : List Oper) (q : Nat) (K : Loc → Hp → List (Nat × Tch) → Opt) : ∀ (os : List Oper) (i : Nat) (l : Loc) (h : Hp) (tr : List (Nat × Tch)),
    opsDK E R cx ops q (fun _ l h tr => K l h tr) os i l h tr = (match evOpsD E R ops q os i l h tr with
      | none => none
      | some (l', h', tr') => K l' h' tr')
  | [], i, l, h, tr => rfl
  | o :: os, i, l, h, tr => by
    have ih := opsDK_eq E R cx ops q K os
    show Option.rec (motive := fun _ => Opt) none (fun b => Bool.rec (opsDK E R cx ops q (fun _ l h tr => K l h tr) os (i + 1) (putK l o.dst (.tuple #[])) h tr) (stepDK E R cx q o (opsDK E R cx ops q (fun _ l h tr => K l h tr) os) i l h tr) b) (guardK ops l o) = _
    rw [guardK_eq]
    simp only [evOpsD]
    cases guardOk ops l.regs o with
    | none => rfl
    | some b =>
      cases b with
      | false => show opsDK E R cx ops q (fun _ l h tr => K l h tr) os (i + 1) (putK l o.dst (.tuple #[])) h tr = _; rw [ih, putK_eq]
      | true =>
        show stepDK E R cx q o (opsDK E R cx ops q (fun _ l h tr => K l h tr) os) i l h tr = _
        simp only []
        have hslow : ∀ qb, hush E q i o.op = qb → slowDK E R qb o l h (fun v h' => opsDK E R cx ops q (fun _ l h tr => K l h tr) os (i + 1) (putK l o.dst v) h' (noted i tr (noteOf (l.evD (tmpsOf o.op.operands.toList)) qb o.op h h'))) =
            (match (match stepD E R (l.evD (tmpsOf o.op.operands.toList)) (hush E q i o.op) o h with
              | none => none
              | some (v, h') => evOpsD E R ops q os (i + 1) (l.put o.dst v) h' (noted i tr (noteOf (l.evD (tmpsOf o.op.operands.toList)) (hush E q i o.op) o.op h h'))) with
              | none => none
              | some (l', h', tr') => K l' h' tr') := by
          intro qb hq
          rw [hq, stepD_ext]
          unfold slowDK
          cases stepD E R l.ev qb o h with
          | none => rfl
          | some p => obtain ⟨v, h'⟩ := p; show opsDK E R cx ops q _ os (i + 1) (putK l o.dst v) h' _ = _; rw [ih, putK_eq]
        unfold stepDK
        cases hf : fastOp o.op with
        | false =>
          show elseDK E R (hushK E q i o.op) o l h _ = _
          rw [elseDK_eq, hushK_eq]
          exact hslow _ rfl
        | true =>
          have hn : ∀ b (h h' : Hp), noteOf (l.evD (tmpsOf o.op.operands.toList)) b o.op h h' = touchK l o.op := by
            intro b h h'
            have hna : isAlloc o.op = false := by cases ho : o.op <;> first | rfl | (rw [ho] at hf; simp [fastOp] at hf)
            unfold noteOf touchK touchA
            rw [fast_notRun hf, hna]; rfl
          simp only [hn] at hslow ⊢
          cases hq : hushK E q i o.op with
          | true =>
            rw [hushK_eq] at hq
            exact hslow true hq
          | false =>
            rw [hushK_eq] at hq
            show opK o.op E R cx o.dst l h _ _ = _
            rw [opK_eq, (fast_step (R := R) hf (K := fun _ _ => none)).2, stepD_ext, hq]
            cases stepD E R l.ev false o h with
            | none => rfl
            | some p => obtain ⟨v, h'⟩ := p; simp only []; rw [ih]
/-! ### code -/
theorem codeK_eq (E : Env) (R : Rec) (M : CodeM) (hM : ∀ cx c l h kn ka, M cx c l h kn ka = bind2 (R.code cx c l h) kn ka) (cx : Cx) : ∀ (c : Code) (l : Loc) (h : Hp) (kn : Loc → Hp → Opt) (ka : Ex → Loc → Hp → Opt),
    codeK E R M cx c l h kn ka = bind2 (codeStep E R cx c l h) kn ka := by
  intro c
  induction c with
  | skip => intro l h kn ka; rfl
  | label n => intro l h kn ka; rfl
  | region id ops draw =>
    intro l h kn ka
    cases draw with
    | false => exact opsK_eq E R cx ops.toList kn ka ops.toList l h
    | true =>
      show (Bool.rec (motive := fun _ => Opt) (drawK E R cx ops.toList l h kn) (bind2 (cutD E R cx ops.toList l h) kn ka) (E.cut cx.fn) : Opt) = _
      simp only [codeStep, cond_true]
      cases E.cut cx.fn with
      | true => rfl
      | false =>
      show drawK E R cx ops.toList l h kn = _
      simp only [cond_false]
      unfold drawK drawKo
      generalize hoist ops.toList = os
      cases plan E os with
      | none => rfl
      | some p =>
        obtain ⟨q, ps⟩ := p
        show opsDK E R cx os q (fun _ l h tr => Bool.rec none (kn l h) (pairsOk tr ps)) os 0 l h [] = _
        rw [opsDK_eq E R cx os q (fun l h tr => Bool.rec none (kn l h) (pairsOk tr ps))]
        simp only []
        cases evOpsD E R os q os 0 l h [] with
        | none => rfl
        | some x =>
          obtain ⟨a, b, c⟩ := x
          simp only []
          cases pairsOk c ps <;> rfl
  | seq a b iha ihb =>
    intro l h kn ka
    show codeK E R M cx a l h (fun l h => codeK E R M cx b l h kn ka) ka = _
    rw [iha, show (fun l h => codeK E R M cx b l h kn ka) = fun l h => bind2 (codeStep E R cx b l h) kn ka from funext fun l => funext fun h => ihb l h kn ka]
    rw [bind2_bind _ _ _ _ _ (fun _ _ _ _ => rfl)]
    simp only [codeStep]
    cases codeStep E R cx a l h with
    | none => rfl
    | some q => obtain ⟨e, l', h'⟩ := q; cases e <;> rfl
  | cond c a b iha ihb =>
    intro l h kn ka
    show Option.rec (motive := fun _ => Opt) none (fun t => Bool.rec (codeK E R M cx b l h kn ka) (codeK E R M cx a l h kn ka) t) (asBool (evK l c)) = _
    rw [evK_eq, iha, ihb]
    simp only [codeStep]
    cases l.ev c <;> (try rfl)
    rename_i t
    cases t <;> rfl
  | block id b ih =>
    intro l h kn ka
    show codeK E R M cx b l h kn (fun e l h => blkK e id kn ka l h) = _
    rw [ih]
    simp only [codeStep]
    cases codeStep E R cx b l h with
    | none => rfl
    | some q =>
      obtain ⟨e, l', h'⟩ := q
      cases e with
      | normal => rfl
      | ret => rfl
      | pan v => rfl
      | exit i =>
        show Bool.rec (motive := fun _ => Opt) (ka (.exit i) l' h') (kn l' h') (Nat.beq i id) = _
        simp only []
        cases Nat.beq i id <;> rfl
  | loop b ih =>
    intro l h kn ka
    show codeK E R M cx b l h (fun l h => M cx (.loop b) l h kn ka) ka = _
    rw [ih, show (fun l h => M cx (.loop b) l h kn ka) = fun l h => bind2 (R.code cx (.loop b) l h) kn ka from funext fun l => funext fun h => hM cx (.loop b) l h kn ka]
    rw [bind2_bind _ _ _ _ _ (fun _ _ _ _ => rfl)]
    simp only [codeStep]
    cases codeStep E R cx b l h with
    | none => rfl
    | some q => obtain ⟨e, l', h'⟩ := q; cases e <;> rfl
  | rangeFunc f ps asg body _ _ =>
    intro l h kn ka
    show bind2 (rangeStep R cx (evK l f) ps asg body l h) kn ka = _
    rw [evK_eq]; rfl
  | exit id => intro l h kn ka; rfl
  | scope b ih => intro l h kn ka; exact ih l h kn ka
  | goto n => intro l h kn ka; rfl
  | ret => intro l h kn ka; rfl
  | refuse m => intro l h kn ka; rfl

/-! ### calls -/
theorem doneK_eq (E : Env) (R : Rec) (fn : Func) (l : Loc) (h : Hp) : doneK E R fn l h = slowDone E R fn l h := by
  unfold doneK slowDone
  cases hd : l.dfs with
  | cons d ds => rfl
  | nil =>
    simp only [unwindA]
    cases readRes E l.regs h fn.results.toList <;> rfl
theorem callBK_eq (E : Env) (R : Rec) (f : FuncId) (args : List Value) (rc : Option (Value × Bool)) (h : Hp) : callBK E R f args rc h = callBody E R f args rc h := by
  unfold callBK callBody
  cases E.fn f with
  | none => rfl
  | some fn =>
    show Option.rec (motive := fun _ => ResK) none (fun body => callFn E R f args rc h fn body) fn.body = _
    simp only []
    cases fn.body with
    | none => rfl
    | some body =>
      show callFn E R f args rc h fn body = _
      unfold callFn
      simp only []
      cases Nat.ble args.length fn.ntmps with
      | false => rfl
      | true =>
        show leaveK E R fn _ = _
        simp only [cond_true]
        cases R.code ⟨f, fn.ntmps, none⟩ body ⟨(Tr.blank (.tuple #[]) fn.ntmps fn.ntmps).setAll 0 args, [], rc⟩ h with
        | none => rfl
        | some q =>
          obtain ⟨e, l, h'⟩ := q
          cases e with
          | exit i => rfl
          | pan v => rfl
          | normal => exact doneK_eq E R fn l h'
          | ret => exact doneK_eq E R fn l h'

theorem callSK_eq (E : Env) (R : Rec) (f : FuncId) (args : List Value) (rc : Option (Value × Bool)) (h : Hp) : callSK E R f args rc h = callStep E R f args rc h := by
  unfold callSK callStep
  cases E.pre f args h with
  | none => exact callBK_eq E R f args rc h
  | some q => obtain ⟨v, h'⟩ := q; cases rc <;> rfl

theorem runK_rel (E : Env) : ∀ n, (runK E n).rec' = run E n ∧ ∀ cx c l h kn ka, (runK E n).code cx c l h kn ka = bind2 ((run E n).code cx c l h) kn ka
  | 0 => ⟨rfl, fun _ _ _ _ _ _ => rfl⟩
  | n + 1 => by
    obtain ⟨h1, h2⟩ := runK_rel E n
    have hc : ∀ cx c l h kn ka, (runK E (n + 1)).code cx c l h kn ka = bind2 ((run E (n + 1)).code cx c l h) kn ka := by
      intro cx c l h kn ka
      show codeK E (runK E n).rec' (runK E n).code cx c l h kn ka = bind2 (codeStep E (run E n) cx c l h) kn ka
      rw [h1]
      exact codeK_eq E (run E n) (runK E n).code h2 cx c l h kn ka
    refine ⟨?_, hc⟩
    show Rec.mk (fun f args rc h => callSK E (runK E n).rec' f args rc h) (fun cx c l h => (runK E (n + 1)).code cx c l h (fun l h => some (.normal, l, h)) (fun e l h => some (e, l, h))) = next E (run E n)
    rw [h1]
    unfold next
    congr 1
    · funext f args rc h; exact callSK_eq E (run E n) f args rc h
    · funext cx c l h; rw [hc, bind2_id]; rfl
theorem runK_call (E : Env) (n : Nat) (f : FuncId) (args : List Value) (rc : Option (Value × Bool)) (h : Hp) : (runK E n).call f args rc h = (run E n).call f args rc h := by
  rw [← (runK_rel E n).1]; rfl

theorem envK_eq (fns : Tr Func) (tys : Tr TypeInfo) (eqs : List Nat) : envK fns tys eqs = envOf fns tys eqs := rfl

theorem hpK_eq : hpK = hp0 := rfl
end
end Go.Ab
