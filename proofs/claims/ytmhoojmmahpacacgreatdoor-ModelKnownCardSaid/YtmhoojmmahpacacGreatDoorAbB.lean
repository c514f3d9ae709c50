/- A deterministic evaluator of the model's code, and that the model follows it (part 2). -/
import Derived.Test.YtmhoojmmahpacacGreatDoorAbA
import Derived.Calls
import Derived.RowKit3
set_option maxHeartbeats 400000
set_option linter.defProp false
set_option linter.unusedVariables false
set_option linter.unusedSimpArgs false
/- Each operation. -/
namespace Go.Ab
section
variable {E : Env} {P : Program} (ok : EOk E P)
include ok

omit ok in
theorem nmin_eq (a b : Nat) : nmin a b = Nat.min a b := by
  unfold nmin; rw [nble_eq]
  grind
theorem copyV_run {mu : Mu} {h h' : Hp} {w : World} (hh : HRel mu h w) {ts : Array TypeId} {ty : TypeId} {xs : Array Value} {s s' x x' v : Value} (hx0 : xs[0]? = some s') (hx1 : xs[1]? = some x')
    (hl : copyV E h ts.toList s x = some (h', v)) (hs : VRel mu s s') (hx : VRel mu x x') :
    ∃ v' mu' w', (Builtin.copy_ ts ty xs).run P w = .ok v' w' ∧ HRel mu' h' w' ∧ Ext mu h w mu' h' w' ∧ VRel mu' v v' := by
  unfold copyV at hl
  cases hts : ts.toList with
  | nil => simp [hts] at hl
  | cons t ts1 =>
    have ht0 : ts[0]? = some t := by rw [← Array.getElem?_toList, hts]; rfl
    simp only [hts] at hl
    cases hu : E.und t with
    | none => simp [hu] at hl
    | some d =>
      simp only [hu] at hl
      cases d <;> (try simp only [] at hl) <;> try (cases hl; done)
      rename_i e
      cases hk : E.sz e with
      | none => simp [hk] at hl
      | some k =>
        simp only [hk] at hl
        have hsl : ∃ a len cap, s = .slice a len cap := by
          grind
        obtain ⟨a, len, cap, rfl⟩ := hsl
        have hsl' : ∃ a' cap', s' = .slice a' len cap' ∧ len ≤ cap := by
          cases hs with
          | nils => grind
          | slice h1 h2 => grind
        obtain ⟨a', cap', rfl, hlc⟩ := hsl'
        unfold Builtin.copy_
        simp only [ht0, hx0, hx1, Sem.run_bind, und_run ok hu, Result.andThen_ok]
        simp only [] at hl
        cases hx <;> (try simp only [] at hl) <;> try (cases hl; done)
        · rename_i s
          rw [nbeq_eq] at hl
          by_cases hk1 : k = 1
          · subst hk1
            simp only [decide_true, cond_true] at hl
            have o4 : (Builtin.firstCells 1 (Nat.min s.size len) (.string s)).run P w = .ok ((((byteList s).map fun b => Value.int .u8 (.ofNat b.toNat)).take (nmin s.size len)).toArray) w := by
              simp only [Builtin.firstCells, Sem.run_pure]
              congr 1
              apply Array.ext'
              rw [nmin_eq]
              simp [byteList, List.map_take]
            have lr : VL mu (((byteList s).map fun b => Value.int .u8 (.ofNat b.toNat)).take (nmin s.size len)) (((byteList s).map fun b => Value.int .u8 (.ofNat b.toNat)).take (nmin s.size len)) := by
              rw [← List.map_take]; exact LR.mapSame _ fun b => .int _ _
            generalize ((byteList s).map fun b => Value.int .u8 (.ofNat b.toNat)).take (nmin s.size len) = l at hl o4 lr
            cases l with
            | nil =>
              simp only [] at hl
              cases hl
              refine ⟨goInt (Nat.min s.size len : Nat), mu, w, ?_, hh, Ext.refl mu h w hh, by rw [nmin_eq]; exact .int _ _⟩
              cases a' <;> simp [Builtin.lenOf, sz_run ok hk, o4, storeCells]
            | cons y ys =>
              simp only [] at hl
              cases a with
              | none => simp at hl
              | some a =>
                cases hs with
                | slice q1 q2 =>
                  rename_i a'
                  simp only [] at hl
                  cases hst : h.store a.block a.off (y :: ys) with
                  | none => simp [hst] at hl
                  | some h2' =>
                    simp only [hst] at hl
                    cases hl
                    have hcap : cap ≠ 0 := by
                      intro e0
                      simp_all[Nat.min,Nat.min_zero,Builtin.firstCells]
                    obtain ⟨w', g1, g2, g3⟩ := store_rel (P := P) hh (slice_addr q2 hcap) hst lr
                    refine ⟨goInt (Nat.min s.size len : Nat), mu, w', ?_, g2, g3, by rw [nmin_eq]; exact .int _ _⟩
                    simp [Builtin.lenOf, sz_run ok hk, o4, g1]
          grind
        · cases hl
          refine ⟨goInt 0, mu, w, ?_, hh, Ext.refl mu h w hh, .int _ _⟩
          have : Nat.min 0 len = 0 := Nat.zero_min len
          cases a' <;> simp [Builtin.lenOf, sz_run ok hk, Builtin.firstCells, this, storeCells]
        · rename_i b b' m cp cp' h1 h2
          cases hld : h.load b.block b.off (nmin m len * k) with
          | none => simp [hld] at hl
          | some l =>
            simp only [hld] at hl
            have hnm : nmin m len ≤ cp := by rw [nmin_eq]; grind
            obtain ⟨o1, l', o2, o3⟩ := firstCells_run (P := P) hh (len := nmin m len) hnm h2 hld
            have o4 : (Builtin.firstCells k (Nat.min m len) (.slice (some b') m cp')).run P w = .ok l'.toArray w := by
              rw [← nmin_eq]; exact o3 w rfl
            cases l with
            | nil =>
              simp only [] at hl
              cases hl
              have : l' = [] := o2.nil_left
              subst this
              refine ⟨goInt (Nat.min m len : Nat), mu, w, ?_, hh, Ext.refl mu h w hh, by rw [nmin_eq]; exact .int _ _⟩
              cases a' <;> simp [Builtin.lenOf, sz_run ok hk, o4, storeCells]
            | cons y ys =>
              simp only [] at hl
              cases a with
              | none => simp at hl
              | some a =>
                cases hs with
                | slice q1 q2 =>
                  rename_i a'
                  simp only [] at hl
                  cases hst : h.store a.block a.off (y :: ys) with
                  | none => simp [hst] at hl
                  | some h2' =>
                    simp only [hst] at hl
                    cases hl
                    have hcap : cap ≠ 0 := by
                      intro e0
                      simp_all[nmin_eq,Nat.min,Nat.min_zero]
                    obtain ⟨w', g1, g2, g3⟩ := store_rel (P := P) hh (slice_addr q2 hcap) hst o2
                    refine ⟨goInt (Nat.min m len : Nat), mu, w', ?_, g2, g3, by rw [nmin_eq]; exact .int _ _⟩
                    simp [Builtin.lenOf, sz_run ok hk, o4, g1]

omit ok in
theorem bytesOf_run {mu : Mu} {l l' : List Value} {r : List UInt8} (h : bytesOf l = some r) (hl : VL mu l l') (s : ByteArray) (w : World) (m : String) :
    (forIn l' s (fun c s => match c with | .int .u8 n => pure (ForInStep.yield (s.push (UInt8.ofNat n.toNat))) | _ => do stuck m; pure (ForInStep.yield s)) : Sem ByteArray).run P w = .ok (byteStr (byteList s ++ r)) w := by
  induction l generalizing l' r s with
  | nil =>
    rw [hl.nil_left]
    simp_all[bytesOf,byteStr,byteList]
  | cons x l ih =>
    obtain ⟨x', q, rfl, h1, h2⟩ := hl.cons_left
    have : ∃ n : Nat, x = .int .u8 (n : Int) := by
      unfold bytesOf at h
      grind
    obtain ⟨n, rfl⟩ := this
    cases h1
    have h' : (match bytesOf l with | none => none | some r => some (UInt8.ofNat n :: r)) = some r := h
    cases hb : bytesOf l with
    | none => simp [hb] at h'
    | some r2 =>
      simp_all[List.forIn_cons,Sem.run_bind,Sem.run_pure,Result.andThen_ok,Int.toNat_natCast,byteStr,byteList]

omit ok in
theorem freeze_new (w : World) (cs : Array Value) (e : TypeId) :
    WNew w ({ w with heap := w.heap.push (.cells cs e) }.freeze { block := w.heap.size, off := cs.size } 1) (.cells cs e (cs.size, cs.size + 1)) := by
  refine ⟨?_, rfl, rfl, rfl⟩
  simp only [World.freeze, if_neg (show ¬ (1 : Nat) = 0 by omega)]
  grind

theorem convV_run {mu : Mu} {h h' : Hp} {w : World} (hh : HRel mu h w) {src dst : TypeId} {x x' v : Value} (hl : convV E h src dst x = some (h', v)) (hx : VRel mu x x') :
    ∃ v' mu' w', (convert src dst x').run P w = .ok v' w' ∧ HRel mu' h' w' ∧ Ext mu h w mu' h' w' ∧ VRel mu' v v' := by
  unfold convV at hl
  cases hk : convKind E src dst with
  | none => simp [hk] at hl
  | some q =>
    obtain ⟨n, e⟩ := q
    unfold convKind at hk
    cases hu : E.und src with
    | none => simp [hu] at hk
    | some d =>
      simp only [hu] at hk
      have plain : (∀ e, d ≠ .slice e) → n = 0 → ∃ v' mu' w', (convert src dst x').run P w = .ok v' w' ∧ HRel mu' h' w' ∧ Ext mu h w mu' h' w' ∧ VRel mu' v v' := by
        intro hd hn
        subst hn
        have hk0 : convKind E src dst = some (0, e) := by grind[convKind]
        simp only [hk0] at hl
        cases hc : convP E dst x with
        | none => simp [hc] at hl
        | some u =>
          simp only [hc] at hl
          cases hl
          obtain ⟨g1, g2⟩ := convP_run ok hu hd hc hx w
          grind[Ext.refl]
      cases d <;> (try simp only [] at hk) <;> (try (cases hk; exact plain (by intro e he; cases he) rfl))
      case string =>
        cases hud : E.und dst with
        | none => simp [hud] at hk
        | some dd =>
          simp only [hud] at hk
          cases dd <;> (try simp only [] at hk) <;> (try (cases hk; exact plain (by intro e he; cases he) rfl))
          rename_i e2
          cases hue : E.und e2 with
          | none => simp [hue] at hk
          | some de =>
            simp only [hue] at hk
            have hde : de = .int .u8 ∧ n = 2 ∧ e = e2 := by
              grind
            obtain ⟨rfl, rfl, rfl⟩ := hde
            have hk2 : convKind E src dst = some (2, e) := by grind[convKind]
            simp only [hk2] at hl
            cases hx <;> (try simp only [] at hl) <;> try (cases hl; done)
            rename_i s
            rw [nble_eq] at hl
            by_cases hsz : s.size ≤ 1099511627776
            · simp only [hsz, decide_true, cond_true, bytesV] at hl
              cases hl
              obtain ⟨nc, hnc⟩ : ∃ nc, nc = (Question.appendCap s.size 0 e).cut (w.tape w.drawn (.appendCap s.size 0 e)) := ⟨_, rfl⟩
              have hge : s.size ≤ nc := by grind[Question.cut]
              obtain ⟨cs, hcs⟩ : ∃ cs : Array Value, cs = (s.data.map fun b => Value.int .u8 b.toNat) ++ Array.replicate (nc - s.size) (.int .u8 0) := ⟨_, rfl⟩
              have hsize : cs.size = nc := by
                simp_all
              have hd : HRel mu h { w with drawn := w.drawn + 1 } := hrel_drew hh rfl
              have hwn := freeze_new { w with drawn := w.drawn + 1 } cs e
              have hlen : (byteList s).length = s.size := rfl
              obtain ⟨g1, g2⟩ := hrel_new (x := .cells (Tr.ofList ((byteList s).map fun b => .int .u8 (.ofNat b.toNat))) s.size e 1) (base := 0) (top := cs.size) hd hwn ⟨cs, e, (cs.size, cs.size + 1), rfl, rfl, by omega, by
                  grind[Tr.sized_ofList,byteList,List.length_map], by
                  intro j v hv
                  rw [Tr.get_ofList] at hv
                  have hj : j < s.size := by grind
                  refine ⟨v, ?_, ?_⟩
                  · rw [Nat.zero_add, ← Array.getElem?_toList, hcs]
                    simp only [Array.toList_append, Array.toList_map]
                    rw [List.getElem?_append_left (by grind)]
                    exact hv
                  · simp only [List.getElem?_map, Option.map_eq_some_iff] at hv
                    obtain ⟨b, _, rfl⟩ := hv
                    exact .int _ _, by omega⟩
              refine ⟨.slice (some ⟨w.heap.size, 0, none⟩) s.size nc, _, _, ?_, g1, (ext_drew (w' := { w with drawn := w.drawn + 1 }) hh rfl rfl rfl rfl).trans g2, ?_⟩
              · have hf : (Question.appendCap s.size 0 e).forced = false := rfl
                have hshape : World.shape? { w with drawn := w.drawn + 1, heap := w.heap.push (.cells cs e) } w.heap.size = some (e, cs.size) := by
                  simp [World.shape?]
                simp only [convert, Sem.run_bind, und_run ok hu, und_run ok hud, und_run ok hue, Result.andThen_ok, Conv.stringToBytes, run_choose, hf, Bool.false_eq_true, if_false, ← hnc, newRow, run_newObj, Sem.run_pure, ← hcs, markStringish, run_shape, hshape, run_freeze]
              simp_all[new_slice,Nat.le_refl]
            grind
      case slice e2 =>
        cases hud : E.und dst with
        | none => simp [hud] at hk
        | some dd =>
          simp only [hud] at hk
          cases dd <;> (try simp only [] at hk) <;> try (cases hk; done)
          cases hue : E.und e2 with
          | none => simp [hue] at hk
          | some de =>
            simp only [hue] at hk
            have hde : de = .int .u8 ∧ n = 1 ∧ e = e2 := by
              grind
            obtain ⟨rfl, rfl, rfl⟩ := hde
            have hk2 : convKind E src dst = some (1, e) := by grind[convKind]
            simp only [hk2] at hl
            cases hst : strOf h x with
            | none => simp [hst] at hl
            | some u =>
              simp only [hst] at hl
              cases hl
              unfold strOf at hst
              cases hx <;> (try simp only [] at hst) <;> try (cases hst; done)
              · cases hst
                refine ⟨.string .empty, mu, w, ?_, hh, Ext.refl mu h w hh, .string _⟩
                simp [convert, und_run ok hu, und_run ok hud, und_run ok hue, Conv.bytesToString]
              · rename_i a a' len cap cap' h1 h2
                cases hld : h.load a.block a.off len with
                | none => grind
                | some l =>
                  simp only [hld] at hst
                  cases hb : bytesOf l with
                  | none => simp [hb] at hst
                  | some r =>
                    simp only [hb] at hst
                    cases hst
                    obtain ⟨o1, l', o2, o3⟩ := firstCells_run (P := P) hh (len := len) (k := 1) h1 h2 (by rw [Nat.mul_one]; exact hld)
                    have o4 := o3 w rfl
                    simp only [Builtin.firstCells, Nat.mul_one] at o4
                    have hf := fun m => bytesOf_run (P := P) hb o2 ByteArray.empty w m
                    refine ⟨.string (byteStr r), mu, w, ?_, hh, Ext.refl mu h w hh, .string _⟩
                    simp only [convert, Sem.run_bind, und_run ok hu, und_run ok hud, und_run ok hue, Result.andThen_ok, Conv.bytesToString, o4]
                    rw [List.forIn_toArray]
                    refine (congrArg (fun q => Result.andThen q (fun a w' => Sem.run P (pure (Value.string a)) w')) (hf _)).trans ?_
                    simp [byteList]

omit ok in
theorem target_run {mu : Mu} {f f' : Value} {args : List Value} {args' : Array Value} {nx : ANext} {h : Hp} {w : World} (ht : target f args = some nx) (hf : VRel mu f f') (ha : VL mu args args'.toList) :
    Res P mu h w (do let d ← Deferred.ofValue f' args'; invoke d.target d.args) h nx := by
  unfold target at ht
  cases hf <;> (try simp only [] at ht) <;> try (cases ht; done)
  · rename_i g x x' y y' h1 h2 h3 h4
    cases ht
    refine ⟨rfl, x' ++ args' ++ y', by rfl, ?_⟩
    simp only [Array.toList_append]
    exact LR.append (LR.append ⟨h1, h2⟩ ha) ⟨h3, h4⟩
  · rename_i b c hp
    simp at ht
    subst ht
    exact ⟨rfl, c, args', by simp [Deferred.ofValue, invoke], hp, ha⟩

/-- THE OPERATIONS. -/
theorem aop_run {mu : Mu} {h h' : Hp} {w : World} (hh : HRel mu h w) {ρ ρ' : Operand → Value} (hρ : ∀ x, VRel mu (ρ x) (ρ' x)) {o : Oper} {nx : ANext} (hl : aop E ρ h o.op = some (nx, h')) :
    Res P mu h w (execOp ρ' o) h' nx := by
  have vlist : ∀ l : List Operand, VL mu (l.map ρ) (l.map ρ') := fun l => LR.mapSame l hρ
  have pure_ : ∀ {v : Value}, pop E ρ o.op = some v → Res P mu h w (execOp ρ' o) h (.val v) := by
    intro v hv
    obtain ⟨v', g1, g2⟩ := pop_run ok hρ hv w
    exact ⟨v', mu, w, g1, hh, Ext.refl mu h w hh, g2⟩
  have wr : ∀ {r : Option Value}, wrapR h r = some (nx, h') → ∃ v, r = some v ∧ nx = .val v ∧ h' = h := by
    intro r hr
    cases r with
    | none => cases hr
    | some v => cases hr; grind
  have wv : ∀ {r : Option (Hp × Value)}, wrapV r = some (nx, h') → ∃ v, r = some (h', v) ∧ nx = .val v := by
    intro r hr
    cases r with
    | none => cases hr
    | some q => obtain ⟨a, b⟩ := q; cases hr; grind
  have wu : ∀ {r : Option Hp}, wrapU r = some (nx, h') → r = some h' ∧ nx = .skip := by
    intro r hr
    cases r with
    | none => cases hr
    | some q => cases hr; grind
  obtain ⟨dst, op, type, pos, after, guard⟩ := o
  simp only [] at hl pure_
  unfold execOp
  simp only []
  cases op
  case load t a =>
    obtain ⟨v, hv, rfl, rfl⟩ := wr hl
    obtain ⟨v', g1, g2⟩ := loadV_run ok hh hv (hρ a)
    exact ⟨v', mu, w, by simp [g1], hh, Ext.refl mu _ w hh, g2⟩
  case store t a x =>
    obtain ⟨hv, rfl⟩ := wu hl
    obtain ⟨w', g1, g2, g3⟩ := storeV_run ok hh hv (hρ a) (hρ x)
    exact ⟨mu, w', by simp [g1], g2, g3⟩
  case convert s d x =>
    obtain ⟨v, hv, rfl⟩ := wv hl
    obtain ⟨v', mu', w', g1, g2, g3, g4⟩ := convV_run ok hh hv (hρ x)
    exact ⟨v', mu', w', by simp [g1], g2, g3, g4⟩
  case alloc e =>
    simp only [aop] at hl
    cases hz : E.zero e with
    | none => simp [hz] at hl
    | some z =>
      simp only [hz] at hl
      obtain ⟨v, hv, rfl⟩ := wv hl
      cases hv
      obtain ⟨zv, z1, z2, z3, z4⟩ := zero_run ok hz w
      have hr : VL mu z zv.cells.toList := by
        grind[LR.refl,VRel.const,List.all_eq_true]
      obtain ⟨g1, g2⟩ := new_rel hh (el := e) hr (alloc_new w (.cells zv.cells e)) (Tr.sized_ofList z) (Tr.get_ofList z)
      exact ⟨.pointer (some ⟨w.heap.size, 0, none⟩), _, _, by simp [Instr.alloc, z1, newVar, newRow], g1, g2, .ptr (new_ptr mu h.n w.heap.size 0 _)⟩
  case box e x =>
    simp only [aop] at hl
    have hne : ∀ y, ρ x ≠ .chan y := by grind
    have hl' : wrapV (some (newCells h (vcells (ρ x)) e)) = some (nx, h') := by
      grind
    obtain ⟨v, hv, rfl⟩ := wv hl'
    cases hv
    have hr := (hρ x).cells hne
    obtain ⟨g1, g2⟩ := new_rel hh (el := e) hr (alloc_new w (.cells (ρ' x).cells e)) (Tr.sized_ofList _) (Tr.get_ofList _)
    exact ⟨.pointer (some ⟨w.heap.size, 0, none⟩), _, _, by rfl, g1, g2, .ptr (new_ptr mu h.n w.heap.size 0 _)⟩
  case buildSlice t n parts =>
    obtain ⟨v, hv, rfl⟩ := wv hl
    have hq : PL mu (parts.toList.map fun p => (p.1, ρ p.2)) (parts.toList.map fun p => (p.1, ρ' p.2)) := LR.mapSame _ fun p => ⟨rfl, hρ p.2⟩
    obtain ⟨v', mu', w', g1, g2, g3, g4⟩ := buildSliceV_run ok hh hv hq
    have e : (parts.map fun (x : Nat × Operand) => (x.1, ρ' x.2)) = (parts.toList.map fun p => (p.1, ρ' p.2)).toArray := by
      apply Array.ext'; simp
    refine ⟨v', mu', w', ?_, g2, g3, g4⟩
    simp_all
  case makeSlice t l c =>
    obtain ⟨v, hv, rfl⟩ := wv hl
    obtain ⟨v', mu', w', g1, g2, g3, g4⟩ := makeSliceV_run ok hh hv (hρ l) (hρ c)
    exact ⟨v', mu', w', by simp [g1], g2, g3, g4⟩
  case makeMap t r =>
    cases r with
    | some x => simp only [aop] at hl; obtain ⟨v, hv, rfl, rfl⟩ := wr hl; cases hv
    | none =>
      cases hl
      obtain ⟨g1, g2⟩ := hrel_new (x := .map [] 0) (base := 0) (top := 0) hh (alloc_new w (.map #[] 0)) ⟨rfl, #[], rfl, LR.nil⟩
      exact ⟨.map (some w.heap.size), _, _, by rfl, g1, g2, .map (by unfold PRel; rw [upd_same]; omega)⟩
  case lookup t m k q =>
    obtain ⟨v, hv, rfl, rfl⟩ := wr hl
    obtain ⟨v', g1, g2⟩ := lookupV_run ok hh hv (hρ m) (hρ k)
    exact ⟨v', mu, w, by simp [g1], hh, Ext.refl mu _ w hh, g2⟩
  case mapUpdate t m k x =>
    obtain ⟨hv, rfl⟩ := wu hl
    obtain ⟨w', g1, g2, g3⟩ := mapPut_run ok hh hv (hρ m) (hρ k) (hρ x)
    exact ⟨mu, w', by simp [g1], g2, g3⟩
  case insert t m k x =>
    obtain ⟨hv, rfl⟩ := wu hl
    obtain ⟨w', g1, g2, g3⟩ := mapPut_run ok hh hv (hρ m) (hρ k) (hρ x)
    exact ⟨mu, w', by simp [g1], g2, g3⟩
  case mapEntry t m k =>
    obtain ⟨v, hv, rfl⟩ := wv hl
    obtain ⟨v', w', g1, g2, g3, g4⟩ := mapEnt_run ok hh hv (hρ m) (hρ k)
    exact ⟨v', mu, w', by simp [g1], g2, g3, g4⟩
  case entryStore t m s x =>
    obtain ⟨hv, rfl⟩ := wu hl
    obtain ⟨w', g1, g2, g3⟩ := entStore_run (P := P) (t := t) hh hv (hρ m) (hρ s) (hρ x)
    exact ⟨mu, w', by simp [g1], g2, g3⟩
  case panic x =>
    simp only [aop] at hl
    have hx := hρ x
    revert hl
    cases hr : ρ x <;> intro hl <;> (try simp only [] at hl) <;> try (cases hl; done)
    cases hl
    rw [hr] at hx
    cases hr' : ρ' x <;> rw [hr'] at hx <;> cases hx
    rename_i hv
    exact ⟨rfl, _, by simp only [hr']; rfl, .iface hv⟩
  case defer c =>
    simp only [aop] at hl
    obtain ⟨callee, args, argTypes⟩ := c
    cases callee <;> (try simp only [] at hl) <;> try (cases hl; done)
    rename_i f
    have hx := hρ f
    revert hl
    cases hr : ρ f <;> intro hl <;> (try simp only [] at hl) <;> try (cases hl; done)
    rename_i fn a b
    cases fn <;> (try simp only [] at hl) <;> try (cases hl; done)
    rename_i g
    cases hl
    rw [hr] at hx
    cases hr' : ρ' f <;> rw [hr'] at hx <;> cases hx
    rename_i a' b' h1 h2 h3 h4
    refine ⟨rfl, { target := .fn (.func g) b', args := a' ++ args.map ρ' }, ?_, ?_⟩
    · simp only [resolve, hr', Deferred.ofValue]; simp
    · refine ⟨b', rfl, ⟨h3, h4⟩, ?_⟩
      simp only [Array.toList_append, Array.toList_map]
      exact LR.append ⟨h1, h2⟩ (vlist _)
  case call c =>
    obtain ⟨callee, args, argTypes⟩ := c
    simp only [aop] at hl
    cases callee <;> (try simp only [] at hl) <;> try (cases hl; done)
    case value f =>
      cases ht : target (ρ f) (args.toList.map ρ) with
      | none => simp [ht] at hl
      | some x =>
        simp only [ht] at hl
        cases hl
        have := target_run (P := P) (h := h) (w := w) (args' := args.map ρ') ht (hρ f) (by simp_all)
        exact this
    case builtin b =>
      have arr0 : ∀ {x : Operand} {l : List Operand}, args.toList = x :: l → (args.map ρ')[0]? = some (ρ' x) := by
        intro x l e; rw [← Array.getElem?_toList, Array.toList_map, e]; rfl
      have arr1 : ∀ {x y : Operand} {l : List Operand}, args.toList = x :: y :: l → (args.map ρ')[1]? = some (ρ' y) := by
        intro x y l e; rw [← Array.getElem?_toList, Array.toList_map, e]; rfl
      have plain : ∀ {v : Value}, pop E ρ (.call ⟨.builtin b, args, argTypes⟩) = some v → nx = .val v → h' = h → Res P mu h w (do let d ← resolve ρ' ⟨.builtin b, args, argTypes⟩ type; invoke d.target d.args) h' nx := by
        intro v hv e1 e2
        subst e1; subst e2
        exact pure_ hv
      cases b
      case append =>
        simp only [] at hl
        cases ha : args.toList with
        | nil => simp [ha] at hl
        | cons x l =>
          cases l with
          | nil => simp [ha] at hl
          | cons y l =>
            simp only [ha] at hl
            obtain ⟨v, hv, rfl⟩ := wv hl
            obtain ⟨v', mu', w', g1, g2, g3, g4⟩ := appendV_run ok hh (ty := type) (arr0 ha) (arr1 ha) hv (hρ x) (hρ y)
            exact ⟨v', mu', w', by simp [resolve, invoke, builtin, g1], g2, g3, g4⟩
      case copy =>
        simp only [] at hl
        cases ha : args.toList with
        | nil => simp [ha] at hl
        | cons x l =>
          cases l with
          | nil => simp [ha] at hl
          | cons y l =>
            simp only [ha] at hl
            obtain ⟨v, hv, rfl⟩ := wv hl
            obtain ⟨v', mu', w', g1, g2, g3, g4⟩ := copyV_run ok hh (ty := type) (arr0 ha) (arr1 ha) hv (hρ x) (hρ y)
            exact ⟨v', mu', w', by simp [resolve, invoke, builtin, g1], g2, g3, g4⟩
      case delete =>
        simp only [] at hl
        cases ht : argTypes.toList with
        | nil => simp [ht] at hl
        | cons t ts =>
          cases ha : args.toList with
          | nil => grind
          | cons x l =>
            cases l with
            | nil => grind
            | cons y l =>
              simp only [ht, ha] at hl
              cases hd : mapDel E h t (ρ x) (ρ y) with
              | none => simp [hd] at hl
              | some h2 =>
                simp only [hd] at hl
                cases hl
                obtain ⟨w', g1, g2, g3⟩ := mapDel_run ok hh (ty := type) (ts := argTypes) (by rw [← Array.getElem?_toList, ht]; rfl) (arr0 ha) (arr1 ha) hd (hρ x) (hρ y)
                exact ⟨.tuple #[], mu, w', by simp [resolve, invoke, builtin, g1], g2, g3, .tuple rfl (by grind)⟩
      case recover =>
        simp only [] at hl
        cases hl
        exact ⟨rfl, by rfl⟩
      case len =>
        simp only [] at hl
        cases hp : pop E ρ (.call ⟨.builtin .len, args, argTypes⟩) with
        | some v => grind
        | none =>
          simp only [hp] at hl
          cases ha : args.toList with
          | nil => simp [ha] at hl
          | cons x l =>
            simp only [ha] at hl
            have hx := hρ x
            revert hl
            cases hr : ρ x <;> intro hl <;> (try simp only [] at hl) <;> try (cases hl; done)
            rename_i r
            cases r with
            | none => simp at hl
            | some r =>
              simp only [] at hl
              rw [hr] at hx
              cases hg : h.get r with
              | none => simp [hg] at hl
              | some y =>
                simp only [hg] at hl
                cases y <;> (try simp only [] at hl) <;> try (cases hl; done)
                rename_i es clock
                cases ht : argTypes.toList with
                | nil => simp [ht] at hl
                | cons t ts =>
                  simp only [ht] at hl
                  cases hu : E.und t with
                  | none => simp [hu] at hl
                  | some d =>
                    simp only [hu] at hl
                    cases d <;> (try simp only [] at hl) <;> try (cases hl; done)
                    cases hl
                    cases hr' : ρ' x <;> rw [hr'] at hx <;> cases hx
                    rename_i c hpr
                    obtain ⟨top, es', k1, k2, k3⟩ := map_at hh hpr hg
                    have e0 : argTypes[0]? = some t := by rw [← Array.getElem?_toList, ht]; rfl
                    have e1 := arr0 ha
                    rw [hr'] at e1
                    have hlen : es.length = es'.size := k3.1
                    refine ⟨.int .i64 es'.size, mu, w, ?_, hh, Ext.refl mu _ w hh, by rw [hlen]; exact .int _ _⟩
                    have : (Builtin.len_ argTypes type (args.map ρ')).run P w = .ok (.int .i64 es'.size) w := by
                      unfold Builtin.len_
                      simp only [e0, e1, Sem.run_bind, und_run ok hu, Result.andThen_ok, getMap_run k2]
                      rfl
                    simp [resolve, invoke, builtin, this]
      all_goals (simp only [] at hl; obtain ⟨v, hv, e1, e2⟩ := wr hl; exact plain hv e1 e2)
  all_goals (simp only [aop] at hl; obtain ⟨v, hv, rfl, rfl⟩ := wr hl; exact pure_ hv)
end
end Go.Ab

/- The abstract machine: regions, code, calls. -/
namespace Go.Ab
noncomputable section

/-! ### frames -/
structure Loc where
  regs : Tr Value
  dfs : List Deferred
  rc : Option (Value × Bool)

def Loc.ev (l : Loc) : Operand → Value
  | .tmp t => match l.regs.get t with
    | some v => v
    | none => .tuple #[]
  | .const v => bif okConst v then v else poison
  | .global g => bif Nat.blt g 16 then .pointer (some ⟨g, 0, none⟩) else poison
  | .func f => .func (.func f) #[] #[]
def Loc.put (l : Loc) (d : Option Tmp) (v : Value) : Loc := match d with
  | none => l
  | some t => { l with regs := l.regs.set t v }

inductive Ex where
  | normal
  | exit (id : Nat)
  | ret
  | pan (v : Value)

inductive Out where
  | ret (v : Value)
  | pan (v : Value)

/-- Where code runs: the function, and the loop over a function of which this is a round. -/
structure Cx where
  fn : FuncId
  nr : Nat
  round : Option Nat

structure Rec where
  call : FuncId → List Value → Option (Value × Bool) → Hp → Option (Out × Option (Value × Bool) × Hp)
  code : Cx → Code → Loc → Hp → Option (Ex × Loc × Hp)

/-! ### rounds of a loop over a function -/
def setParams (regs : Tr Value) : List Tmp → List Value → Option (Tr Value)
  | [], [] => some regs
  | t :: ts, v :: vs => setParams (regs.set t v) ts vs
  | _, _ => none
def roundStep (E : Env) (R : Rec) (b : Nat) (args : List Value) (h : Hp) : Option (Out × Hp) := match h.get b with
  | some (.loop r) => bif (E.fn r.fn).isSome then match r.st with
    | 0 => match setParams r.regs r.params.toList args with
      | none => none
      | some regs => match R.code ⟨r.fn, r.nr, some b⟩ r.assign ⟨regs, [], none⟩ h with
        | some (.normal, l, h1) => match h1.get b with
          | some (.loop r1) => match r1.st with
            | 0 => match R.code ⟨r.fn, r.nr, some b⟩ r.body l (h1.put b (.loop { r1 with st := 1 })) with
              | some (.normal, _, h2) => match h2.get b with
                | some (.loop r2) => some (.ret (.bool true), h2.put b (.loop { r2 with st := 0, pending := none }))
                | _ => none
              | some (.exit id, _, h2) => match h2.get b with
                | some (.loop r2) => some (.ret (.bool false), h2.put b (.loop { r2 with st := 2, pending := some (.exit id) }))
                | _ => none
              | some (.ret, _, h2) => match h2.get b with
                | some (.loop r2) => some (.ret (.bool false), h2.put b (.loop { r2 with st := 2, pending := some .ret }))
                | _ => none
              | some (.pan v, l2, h2) => match l2.dfs with
                | [] => some (.pan v, h2)
                | _ => none
              | none => none
            | _ => none
          | _ => none
        | _ => none
    | _ => none
    else none
  | _ => none

/-! ### regions -/
def guardOk (ops : List Oper) (regs : Tr Value) (o : Oper) : Option Bool := match o.guard with
  | none => some true
  | some (j, want) => match ops[j]? with
    | none => some false
    | some o' => match o'.dst with
      | none => some false
      | some d => match regs.get d with
        | some (.bool b) => some (bif b then want else !want)
        | some (.tuple _) => some false
        | _ => none

/-- What a plain operation leaves. -/
def opVal (E : Env) (R : Rec) : Option (ANext × Hp) → Option (Out × Hp)
  | some (.val v, h') => some (.ret v, h')
  | some (.skip, h') => some (.ret (.tuple #[]), h')
  | some (.call f args, h') => match R.call f args none h' with
    | some (x, _, h'') => some (x, h'')
    | none => none
  | some (.yield b args, h') => roundStep E R b args h'
  | some (.panic v, h') => some (.pan v, h')
  | some (.recov, _) => none
  | some (.defer _, _) => none
  | none => none
def ofOut (o : Oper) (l : Loc) : Option (Out × Hp) → Option (Ex × Loc × Hp)
  | some (.ret v, h') => some (.normal, l.put o.dst v, h')
  | some (.pan v, h') => some (.pan v, l, h')
  | none => none
/-- What an operation leaves. -/
def stepOp (E : Env) (R : Rec) (cx : Cx) (o : Oper) (l : Loc) (h : Hp) : Option (Ex × Loc × Hp) := match aop E l.ev h o.op with
  | some (.recov, h') => match cx.round with
    | some _ => none
    | none => match l.rc with
      | some (v, false) => some (.normal, ({ l with rc := some (v, true) } : Loc).put o.dst v, h')
      | _ => some (.normal, l.put o.dst .nilIface, h')
  | some (.defer d, h') => match cx.round with
    | some _ => none
    | none => some (.normal, ({ l with dfs := d :: l.dfs } : Loc).put o.dst (.tuple #[]), h')
  | r => ofOut o l (opVal E R r)

def evOps (E : Env) (R : Rec) (cx : Cx) (ops : List Oper) : List Oper → Loc → Hp → Option (Ex × Loc × Hp)
  | [], l, h => some (.normal, l, h)
  | o :: os, l, h => match guardOk ops l.regs o with
    | none => none
    | some false => evOps E R cx ops os (l.put o.dst (.tuple #[])) h
    | some true => match stepOp E R cx o l h with
      | some (.normal, l', h') => evOps E R cx ops os l' h'
      | r => r

/-! ### regions that draw their order: what may not be told apart -/
/-- 0 no memory, 1 a read of one block, 2 a write of one block, 3 whatever, 4 new blocks alone, 5 a write of one block and new blocks -/
def cls (E : Env) : Op → Nat
  | .move _ | .assign _ | .pick .. | .nilCheck _ | .binOp .. | .unOp .. | .makeInterface .. | .makeFunc .. | .slice .. | .fieldAddr .. | .field ..
  | .indexAddr .. | .index .. | .extract .. | .build .. | .typeAssert .. => 0
  | .convert src dst _ => match E.und src, E.und dst with
    | some (.slice _), _ => 1
    | some .string, some (.slice _) => 4
    | _, _ => 0
  | .load .. | .lookup .. => 1
  | .store .. | .insert .. | .mapUpdate .. | .mapEntry .. | .entryStore .. => 2
  | .alloc _ | .box .. | .buildSlice .. | .makeSlice .. | .makeMap .. => 4
  | .call c => match c.callee with
    | .builtin .min | .builtin .max => 0
    | .builtin .len => 1
    | .builtin .delete | .builtin .copy => 2
    | .builtin .append => 5
    | _ => 3
  | _ => 3
/-- The block that a read or a write of one block is of, if there is one. -/
def touch (ρ : Operand → Value) : Op → Option Nat
  | .load _ a | .store _ a _ => match ρ a with
    | .pointer (some a) => some a.block
    | _ => none
  | .lookup _ m _ _ | .insert _ m _ _ | .mapUpdate _ m _ _ | .mapEntry _ m _ | .entryStore _ m _ _ => match ρ m with
    | .map r => r
    | _ => none
  | .convert _ _ x => match ρ x with
    | .slice (some a) _ _ => some a.block
    | _ => none
  | .call c => match c.args.toList with
    | x :: _ => match ρ x with
      | .map r => r
      | .slice (some a) _ _ => some a.block
      | _ => none
    | _ => none
  | _ => none
/-- Which operations of a region go ahead of each: bits. -/
def befs : List Oper → List Nat → Option (List Nat)
  | [], acc => some acc
  | o :: os, acc => match (o.after.toList.foldl (fun s e => match s with
      | none => none
      | some s => match e.ground with
        | .textOnly _ => some s
        | .gcOnly _ => some s
        | _ => match acc[acc.length - 1 - e.on]? with
          | none => none
          | some m => bif Nat.blt e.on acc.length then some (Nat.lor (Nat.lor s (Nat.pow 2 e.on)) m) else none) (some 0)) with
    | none => none
    | some s => befs os (s :: acc)
/-- The temporaries that an operation reads or writes. -/
def namesOf (ops : List Oper) (o : Oper) : List Tmp :=
  o.dst.toList ++ (o.op.operands.toList.filterMap fun x => match x with | .tmp t => some t | _ => none) ++
    (match o.guard with
      | none => []
      | some (j, _) => match ops[j]? with
        | none => []
        | some o' => o'.dst.toList)
def memb (t : Nat) : List Nat → Bool
  | [] => false
  | x :: l => Nat.beq t x || memb t l
/-- Do two operations, none of which goes ahead of the other, name no temporary that one of them writes? -/
def apartT (ops : List Oper) (o p : Oper) : Bool :=
  (match o.dst with | none => true | some t => !memb t (namesOf ops p)) && (match p.dst with | none => true | some t => !memb t (namesOf ops o))
/-- A look-up beside the making of an entry, of whatever keys. -/
def lookEnt : Op → Op → Bool
  | .mapEntry t _ _, .lookup t' _ _ ok => !ok && Nat.beq t t'
  | _, _ => false
/-- A call of the program's own functions. -/
def isRun : Op → Bool
  | .call c => match c.callee with
    | .builtin _ => false
    | _ => true
  | _ => false
/-- The making of a new variable. -/
def isAlloc : Op → Bool
  | .alloc _ => true
  | _ => false
/-- The making of a new map. -/
def isMk : Op → Bool
  | .makeMap .. => true
  | _ => false
/-- The temporary that holds the map that an operation writes. -/
def mapArg : Op → Option Tmp
  | .insert _ (.tmp t) _ _ => some t
  | .mapUpdate _ (.tmp t) _ _ => some t
  | _ => none
def dstIs (t : Tmp) (o : Oper) : Bool := match o.dst with
  | some d => Nat.beq d t
  | none => false
def atIs (f : Oper → Bool) (ops : List Oper) (k : Nat) : Bool := match ops[k]? with
  | some o => f o
  | none => false
/-- Is the map that o, of number n, writes made behind number i? -/
def mapNew (ops : List Oper) (o : Oper) (n i : Nat) : Bool := match mapArg o.op with
  | some t => (List.range n).any fun k => Nat.blt i k && (atIs (fun p => isMk p.op && dstIs t p) ops k && (List.range n).all fun j => Nat.ble j k || !atIs (dstIs t) ops j)
  | none => false
/-- What is owed for op j, of number n, and the ones ahead of it (i, downward): which must be quiet (bits), which pairs must be of two blocks. -/
def owed (E : Env) (ops : List Oper) (o : Oper) (m n : Nat) : List Oper → Nat → Nat × List (Nat × Nat) → Option (Nat × List (Nat × Nat))
  | [], _, r => some r
  | p :: ps, i, (q, l) => bif Nat.testBit m i then owed E ops o m n ps (i + 1) (q, l) else
    bif apartT ops o p then
      match cls E o.op, cls E p.op with
      | 0, _ => owed E ops o m n ps (i + 1) (q, l)
      | _, 0 => owed E ops o m n ps (i + 1) (q, l)
      | 1, 1 => owed E ops o m n ps (i + 1) (q, l)
      | 2, 1 => owed E ops o m n ps (i + 1) (q, bif lookEnt o.op p.op then l else (i, n) :: l)
      | 1, 2 => owed E ops o m n ps (i + 1) (q, bif lookEnt p.op o.op then l else (i, n) :: l)
      | 5, 1 => owed E ops o m n ps (i + 1) (q, (i, n) :: l)
      | 1, 5 => owed E ops o m n ps (i + 1) (q, (i, n) :: l)
      | 3, 1 => bif isRun o.op then owed E ops o m n ps (i + 1) (q, (i, n) :: l) else owed E ops o m n ps (i + 1) (Nat.lor (Nat.pow 2 n) q, l)
      | 1, 3 => bif isRun p.op then owed E ops o m n ps (i + 1) (q, (i, n) :: l) else owed E ops o m n ps (i + 1) (Nat.lor (Nat.pow 2 i) q, l)
      | 3, 4 => bif isRun o.op && isAlloc p.op then owed E ops o m n ps (i + 1) (q, (i, n) :: l) else owed E ops o m n ps (i + 1) (Nat.lor (Nat.pow 2 n) q, l)
      | 2, 3 => bif mapNew ops o n i then owed E ops o m n ps (i + 1) (Nat.lor (Nat.pow 2 i) q, l) else none
      | 2, _ => none
      | _, 2 => none
      | c, d => owed E ops o m n ps (i + 1)
          (Nat.lor (bif Nat.beq d 3 || Nat.beq d 5 then Nat.pow 2 i else 0) (Nat.lor (bif Nat.beq c 3 || Nat.beq c 5 then Nat.pow 2 n else 0) q), l)
    else none
def owedAll (E : Env) (ops : List Oper) : List Oper → List Nat → Nat → Nat × List (Nat × Nat) → Option (Nat × List (Nat × Nat))
  | [], _, _, r => some r
  | o :: os, m :: ms, n, r => match owed E ops o m n (ops.take n) 0 r with
    | none => none
    | some (q, l) => owedAll E ops os ms (n + 1) (bif Nat.beq (cls E o.op) 4 then Nat.lor (Nat.pow 2 n) q else q, l)
  | _, [], _, _ => none
def plan (E : Env) (ops : List Oper) : Option (Nat × List (Nat × Nat)) := match befs ops [] with
  | none => none
  | some ms => owedAll E ops ops ms.reverse 0 (0, [])

/-- What an operation sees: its own temporaries. -/
def tmpsOf : List Operand → List Tmp
  | [] => []
  | .tmp t :: l => t :: tmpsOf l
  | _ :: l => tmpsOf l
def Loc.evD (l : Loc) (ts : List Tmp) : Operand → Value
  | .tmp t => bif memb t ts then l.ev (.tmp t) else poison
  | x => l.ev x
/-- Must an operation be quiet? -/
def hush (E : Env) (q i : Nat) (o : Op) : Bool := Nat.testBit q i && Nat.ble 3 (cls E o)
def stepD (E : Env) (R : Rec) (ρ : Operand → Value) (quiet : Bool) (o : Oper) (h : Hp) : Option (Value × Hp) :=
  bif quiet then
    match opVal E R (aop E ρ { h with lo := h.n } o.op) with
    | some (.ret v, h') => bif Nat.ble h.n h'.lo then some (v, { h' with lo := h.lo }) else none
    | _ => none
  else match opVal E R (aop E ρ h o.op) with
    | some (.ret v, h') => some (v, h')
    | _ => none
/-- What an operation leaves in the trace: the block that it looks at, or, of a call, the heap ahead of it and behind it. -/
inductive Tch where
  | blk (b : Nat)
  | run (h h' : Hp)
/-- A new variable's own block, too. -/
def touchA (ρ : Operand → Value) (op : Op) (h : Hp) : Option Nat := bif isAlloc op then some h.n else touch ρ op
def noteOf (ρ : Operand → Value) (quiet : Bool) (op : Op) (h h' : Hp) : Option Tch :=
  bif isRun op then (bif quiet then none else some (.run h h')) else match touchA ρ op h with
    | none => none
    | some b => some (.blk b)
def noted (i : Nat) (tr : List (Nat × Tch)) : Option Tch → List (Nat × Tch)
  | none => tr
  | some b => (i, b) :: tr
def evOpsD (E : Env) (R : Rec) (ops : List Oper) (q : Nat) : List Oper → Nat → Loc → Hp → List (Nat × Tch) → Option (Loc × Hp × List (Nat × Tch))
  | [], _, l, h, tr => some (l, h, tr)
  | o :: os, i, l, h, tr => match guardOk ops l.regs o with
    | none => none
    | some false => evOpsD E R ops q os (i + 1) (l.put o.dst (.tuple #[])) h tr
    | some true => match stepD E R (l.evD (tmpsOf o.op.operands.toList)) (hush E q i o.op) o h with
      | none => none
      | some (v, h') => evOpsD E R ops q os (i + 1) (l.put o.dst v) h' (noted i tr (noteOf (l.evD (tmpsOf o.op.operands.toList)) (hush E q i o.op) o.op h h'))
def entryOf (i : Nat) : List (Nat × Tch) → Option Tch
  | [] => none
  | (k, b) :: l => bif Nat.beq i k then some b else entryOf i l
def sameAddr (a b : Addr) : Bool := Nat.beq a.block b.block && Nat.beq a.off b.off && (match a.spot, b.spot with
  | none, none => true
  | some i, some j => Nat.beq i j
  | _, _ => false)
/-- The same value, of the plain ones. -/
def quick0 (a b : Value) : Bool := match keyEq a b with
  | some t => t
  | none => match a, b with
    | .pointer none, .pointer none => true
    | .pointer (some x), .pointer (some y) => sameAddr x y
    | .slice none n m, .slice none n' m' => Nat.beq n n' && Nat.beq m m'
    | .slice (some x) n m, .slice (some y) n' m' => sameAddr x y && (Nat.beq n n' && Nat.beq m m')
    | .map none, .map none => true
    | .map (some x), .map (some y) => Nat.beq x y
    | .nilFunc, .nilFunc => true
    | .nilIface, .nilIface => true
    | _, _ => false
def quickL : List Value → List Value → Bool
  | [], [] => true
  | x :: l, y :: m => quick0 x y && quickL l m
  | _, _ => false
def quickV (a b : Value) : Bool := match a, b with
  | .func (.func g) x y, .func (.func g') x' y' => Nat.beq g g' && (quickL x.toList x'.toList && quickL y.toList y'.toList)
  | .iface t x, .iface t' y => Nat.beq t t' && quick0 x y
  | _, _ => quick0 a b
def sameT : Tr Value → Tr Value → Bool
  | .nil, .nil => true
  | .node x l r, .node x' l' r' => quickV x x' && (sameT l l' && sameT r r')
  | _, _ => false
def sameE : List (Value × Value × Nat) → List (Value × Value × Nat) → Bool
  | [], [] => true
  | (k, x, n) :: l, (k', y, m) :: l' => quick0 k k' && (quickV x y && (Nat.beq n m && sameE l l'))
  | _, _ => false
def sameB (x y : Blk) : Bool := (match x, y with
  | .cells t n e m, .cells t' n' e' m' => sameT t t' && (Nat.beq n n' && (Nat.beq e e' && Nat.beq m m'))
  | .map es c, .map es' c' => Nat.beq c c' && sameE es es'
  | _, _ => false) || @decide (x = y) (Classical.propDecidable _)
/-- Is a block as it was? -/
def leaves (h h' : Hp) (b : Nat) : Bool := match h.get b, h'.get b with
  | some x, some y => sameB x y
  | none, none => true
  | _, _ => false
def pairOk : Option Tch → Option Tch → Bool
  | some (.blk a), some (.blk b) => !Nat.beq a b
  | some (.blk a), some (.run h h') => leaves h h' a
  | some (.run h h'), some (.blk a) => leaves h h' a
  | some (.run _ _), some (.run _ _) => false
  | _, _ => true
def pairsOk (tr : List (Nat × Tch)) : List (Nat × Nat) → Bool
  | [] => true
  | (i, j) :: l => pairOk (entryOf i tr) (entryOf j tr) && pairsOk tr l

/-! ### new variables first -/
def isFree (o : Oper) : Bool := isAlloc o.op && o.guard.isNone
def freeAt (ops : List Oper) (i : Nat) : Bool := match ops[i]? with
  | some o => isFree o
  | none => false
/-- Which operations are behind the making of a map (the last one first). -/
def lates : List Oper → List Bool → List Bool
  | [], acc => acc
  | o :: os, acc => lates os ((isMk o.op || o.after.toList.any fun e => Nat.blt e.on acc.length && acc.getD (acc.length - 1 - e.on) false) :: acc)
/-- Does a region write into a new map, beside calls? Then these go ahead. -/
def lateOn (ops : List Oper) : Bool := ops.any (fun o => isRun o.op) && (ops.any (fun o => isMk o.op) && ops.any fun o => (mapArg o.op).isSome)
def lateAt (ops : List Oper) (i : Nat) : Bool := lateOn ops && (lates ops []).reverse.getD i false
def ordL (ops : List Oper) : List Nat := (List.range ops.length).filter (freeAt ops) ++ ((List.range ops.length).filter (fun i => !freeAt ops i && !lateAt ops i) ++ (List.range ops.length).filter fun i => !freeAt ops i && lateAt ops i)
def posOf (i : Nat) : List Nat → Nat
  | [] => 0
  | x :: l => bif Nat.beq i x then 0 else posOf i l + 1
def reix (ord : List Nat) (o : Oper) : Oper := { o with after := o.after.map fun e => { e with on := posOf e.on ord }, guard := match o.guard with
  | none => none
  | some (j, w) => some (posOf j ord, w) }
def pickL (ops : List Oper) (ord : List Nat) : List Nat → List Oper
  | [] => []
  | i :: l => match ops[i]? with
    | none => pickL ops ord l
    | some o => reix ord o :: pickL ops ord l
/-- The operations, those ahead that make new variables. -/
def guardIn (n : Nat) (o : Oper) : Bool := match o.guard with
  | none => true
  | some (j, _) => Nat.blt j n
def hoist (ops : List Oper) : List Oper := bif (ops.any isFree || lateOn ops) && ops.all (guardIn ops.length) then pickL ops (ordL ops) (ordL ops) else ops

/-! ### a last operation behind all others -/
def fullM (ops : List Oper) (n : Nat) : Bool := match befs ops [] with
  | some (m :: _) => (List.range n).all fun i => Nat.testBit m i
  | _ => false
def splitOk (ops : List Oper) (n : Nat) : Bool := fullM ops n && (ops.take n).all (guardIn n)
def tail2 (ops : List Oper) : Bool := match ops.reverse with
  | a :: b :: _ => !isRun a.op && isRun b.op
  | _ => false
/-- What goes ahead, in any order: all but the last; or all but the last two, a call and what is made of its answer. -/
def cutN (ops : List Oper) : Nat := bif tail2 ops && splitOk (ops.take (ops.length - 1)) (ops.length - 1 - 1) then ops.length - 1 - 1 else ops.length - 1
def splitD (E : Env) (R : Rec) (cx : Cx) (ops : List Oper) (l : Loc) (h : Hp) : Option (Ex × Loc × Hp) := bif splitOk ops (ops.length - 1) then
    match plan E (hoist (ops.take (cutN ops))) with
    | none => none
    | some (q, ps) => match evOpsD E R (hoist (ops.take (cutN ops))) q (hoist (ops.take (cutN ops))) 0 l h [] with
      | none => none
      | some (l', h', tr) => bif pairsOk tr ps then evOps E R cx ops (ops.drop (cutN ops)) l' h' else none
  else none

/-! ### two entries of a new map, in any order -/
def isIntK : Value → Bool
  | .int _ _ => true
  | _ => false
/-- The type and the key of an entry that is put into the map of t. -/
def insK (t : Tmp) (o : Oper) : Option (TypeId × Value) := match o.op with
  | .insert ty (.tmp t') (.const k) _ => bif Nat.beq t' t && (o.dst.isNone && isIntK k) then some (ty, k) else none
  | _ => none
def keyNe (x y : Value) : Bool := match keyEq x y with
  | some b => !b
  | none => false
def isLookT (ty : TypeId) : Op → Bool
  | .lookup ty' _ _ _ => Nat.beq ty' ty
  | _ => false
def restOk (E : Env) (ty : TypeId) (t : Tmp) (o : Oper) : Bool := !dstIs t o && (Nat.beq (cls E o.op) 0 || isLookT ty o.op)
/-- The temporary of a map that is made at place i, and gets two entries of different keys then. -/
def forkT (E : Env) (os : List Oper) (i : Nat) : Option Tmp := match os[i]?, os[i + 1]?, os[i + 2]? with
  | some m, some a, some b => match m.dst with
    | some t => match insK t a, insK t b with
      | some (ta, x), some (tb, y) => bif isMk m.op && (Nat.beq ta tb && (keyNe x y && (keyNe y x && ((os.drop (i + 3)).all (restOk E ta t) && os.all fun o => o.guard.isNone)))) then some t else none
      | _, _ => none
    | none => none
  | _, _, _ => none
def mkPos (os : List Oper) : Nat := os.findIdx fun o => isMk o.op
def swN (k i : Nat) : Nat := bif Nat.beq i k then k + 1 else bif Nat.beq i (k + 1) then k else i
def ord2 (n k : Nat) : List Nat := (List.range n).map (swN k)
/-- Operation k ahead of the next one. -/
def tie (k i : Nat) (o : Oper) : Oper := bif Nat.beq i (k + 1) then { o with after := o.after.push ⟨k, .data⟩ } else o
def tieL (os : List Oper) (k : Nat) : List Oper := os.mapIdx (tie k)
def forkOk (E : Env) (ops : List Oper) : Bool := (forkT E (hoist ops) (mkPos (hoist ops))).isSome
/-- What the two orders owe. -/
def forkP (E : Env) (os : List Oper) : Option (Nat × List (Nat × Nat)) := match forkT E os (mkPos os), befs os [], plan E (tieL os (mkPos os + 1)), plan E (tieL (pickL os (ord2 os.length (mkPos os + 1)) (ord2 os.length (mkPos os + 1))) (mkPos os + 1)) with
  | some _, some _, some (q, ps), some (q', ps') => bif Nat.beq q q' then some (q, ps ++ ps') else none
  | _, _, _, _ => none
def killT (t : Option Tmp) (l : Loc) (h : Hp) : Option Hp := match t with
  | some t => match l.ev (.tmp t) with
    | .map (some b) => match h.get b with
      | some (.map _ _) => some (h.put b .dead)
      | _ => none
    | _ => none
  | none => none
def forkD (E : Env) (R : Rec) (ops : List Oper) (l : Loc) (h : Hp) : Option (Ex × Loc × Hp) := match forkP E (hoist ops) with
  | none => none
  | some (q, ps) => match evOpsD E R (hoist ops) q (hoist ops) 0 l h [] with
    | none => none
    | some (l', h', tr) => bif pairsOk tr ps then (match killT (forkT E (hoist ops) (mkPos (hoist ops))) l' h' with
      | some h2 => some (.normal, l', h2)
      | none => none) else none

/-! ### a call that may panic, beside what only reads -/
def behD (ops : List Oper) (j i : Nat) : Bool := match befs ops [] with
  | some ms => match ms.reverse[i]? with
    | some m => Nat.testBit m j
    | none => false
  | none => false
def callAt (ops : List Oper) : Nat := ops.findIdx fun o => isRun o.op
def ordM (ops : List Oper) : List Nat := (List.range ops.length).filter (fun i => !(Nat.beq i (callAt ops) || behD ops (callAt ops) i)) ++ (List.range ops.length).filter fun i => Nat.beq i (callAt ops) || behD ops (callAt ops) i
/-- What is not bound behind the call, the call, and what is behind it. -/
def midL (ops : List Oper) : List Oper := pickL ops (ordM ops) (ordM ops)
def readsO (E : Env) (o : Oper) : Bool := Nat.ble (cls E o.op) 1 && o.guard.isNone
def midOk (E : Env) (os : List Oper) (n : Nat) : Bool := (os.take n).all (readsO E) && (atIs (fun o => isRun o.op && o.guard.isNone) os n && (List.range os.length).all fun i => Nat.ble i n || behD os n i)
/-- Behind a panic nothing is known of what a region leaves in temporaries. -/
def panL (os : List Oper) (l : Loc) : Loc := os.foldl (fun l o => l.put o.dst poison) l
def midGo (E : Env) (R : Rec) (os : List Oper) (q : Nat) (ps : List (Nat × Nat)) (n : Nat) (l0 : Loc) : Option (Loc × Hp × List (Nat × Tch)) → Option (Ex × Loc × Hp)
  | none => none
  | some (l, h, tr) => match os[n]? with
    | none => none
    | some o => match opVal E R (aop E (l.evD (tmpsOf o.op.operands.toList)) h o.op) with
      | none => none
      | some (.pan v, h') => some (.pan v, panL os l0, h')
      | some (.ret v, h') => match evOpsD E R os q (os.drop (n + 1)) (n + 1) (l.put o.dst v) h' (noted n tr (noteOf (l.evD (tmpsOf o.op.operands.toList)) false o.op h h')) with
        | none => none
        | some (l', h'', tr') => bif pairsOk tr' ps then some (.normal, l', h'') else none
/-- Does a region end in a store, behind one call that may panic? -/
def midOn (E : Env) (ops : List Oper) : Bool := atIs (fun o => Nat.beq (cls E o.op) 2) ops (ops.length - 1) && (ops.all (guardIn ops.length) && midOk E (midL ops) (callAt (midL ops)))
def midD (E : Env) (R : Rec) (ops : List Oper) (l : Loc) (h : Hp) : Option (Ex × Loc × Hp) := match plan E (midL ops) with
  | none => none
  | some (q, ps) => bif Nat.testBit q (callAt (midL ops)) then none else midGo E R (midL ops) q ps (callAt (midL ops)) l (evOpsD E R (midL ops) q ((midL ops).take (callAt (midL ops))) 0 l h [])
def cutD (E : Env) (R : Rec) (cx : Cx) (ops : List Oper) (l : Loc) (h : Hp) : Option (Ex × Loc × Hp) := bif forkOk E ops then forkD E R ops l h else bif midOn E ops then midD E R ops l h else splitD E R cx ops l h

/-! ### code -/
def rangeStep (R : Rec) (cx : Cx) (f : Value) (params : Array Tmp) (assign body : Code) (l : Loc) (h : Hp) : Option (Ex × Loc × Hp) :=
  match f with
  | .func (.func g) a b =>
    match (match cx.round with
      | none => some (h.new .dfr, h.n, ({ target := .collected h.n, args := #[] } : Deferred) :: l.dfs)
      | some r => match h.get r with
        | some (.loop x) => some (h, x.defers, l.dfs)
        | _ => none) with
    | none => none
    | some (h1, d, dfs) =>
      match R.call g (a.toList ++ [.func (.yield h1.n) #[] #[]] ++ b.toList) none
          (h1.new (.loop { fn := cx.fn, regs := l.regs, nr := cx.nr, params, assign, body, st := 0, pending := none, defers := d })) with
      | none => none
      | some (.pan v, _, h2) => some (.pan v, { l with dfs := dfs }, h2)
      | some (.ret _, _, h2) => match h2.get h1.n with
        | some (.loop x) => match x.st with
          | 1 => none
          | _ => match x.pending with
            | none => some (.normal, { l with dfs := dfs }, h2.put h1.n .dead)
            | some (.exit id) => some (.exit id, { l with dfs := dfs }, h2.put h1.n .dead)
            | some .ret => some (.ret, { l with dfs := dfs }, h2.put h1.n .dead)
            | _ => none
        | _ => none
  | _ => none

def codeStep (E : Env) (R : Rec) (cx : Cx) : Code → Loc → Hp → Option (Ex × Loc × Hp)
  | .skip, l, h => some (.normal, l, h)
  | .label _, l, h => some (.normal, l, h)
  | .region _ ops draw, l, h => bif draw then
      bif E.cut cx.fn then cutD E R cx ops.toList l h else match plan E (hoist ops.toList) with
      | none => none
      | some (q, ps) => match evOpsD E R (hoist ops.toList) q (hoist ops.toList) 0 l h [] with
        | none => none
        | some (l', h', tr) => bif pairsOk tr ps then some (.normal, l', h') else none
    else evOps E R cx ops.toList ops.toList l h
  | .seq a b, l, h => match codeStep E R cx a l h with
    | some (.normal, l', h') => codeStep E R cx b l' h'
    | r => r
  | .cond c a b, l, h => match l.ev c with
    | .bool t => bif t then codeStep E R cx a l h else codeStep E R cx b l h
    | _ => none
  | .block id b, l, h => match codeStep E R cx b l h with
    | some (.exit i, l', h') => bif Nat.beq i id then some (.normal, l', h') else some (.exit i, l', h')
    | r => r
  | .loop b, l, h => match codeStep E R cx b l h with
    | some (.normal, l', h') => R.code cx (.loop b) l' h'
    | r => r
  | .rangeFunc f params assign body, l, h => rangeStep R cx (l.ev f) params assign body l h
  | .exit id, l, h => some (.exit id, l, h)
  | .scope b, l, h => codeStep E R cx b l h
  | .goto _, _, _ => none
  | .ret, l, h => some (.ret, l, h)
  | .refuse _, _, _ => none

/-! ### calls -/
/-- The deferred calls; mode: the panic that goes on. -/
def unwindA (R : Rec) : List Deferred → Option Value → Hp → Option (Option Value × Hp)
  | [], m, h => some (m, h)
  | d :: ds, m, h => match d.target with
    | .collected b => match h.get b with
      | some .dfr => unwindA R ds m (h.put b .dead)
      | _ => none
    | .fn (.func f) cap => match R.call f (d.args.toList ++ cap.toList) (match m with | none => none | some v => some (v, false)) h with
      | some (.ret _, rc, h') => match m, rc with
        | none, none => unwindA R ds none h'
        | some _, some (_, true) => unwindA R ds none h'
        | some _, some (v, false) => unwindA R ds (some v) h'
        | _, _ => none
      | _ => none
    | _ => none
def readRes (E : Env) (regs : Tr Value) (h : Hp) : List ResultVar → Option (List Value)
  | [] => some []
  | .tmp t :: rs => match readRes E regs h rs with
    | none => none
    | some l => some ((match regs.get t with | some v => v | none => .tuple #[]) :: l)
  | .cell a t :: rs => match loadV E h t (match regs.get a with | some v => v | none => .tuple #[]) with
    | none => none
    | some v => match readRes E regs h rs with
      | none => none
      | some l => some (v :: l)
def tupleOf : List Value → Value
  | [v] => v
  | l => .tuple ⟨l⟩
def callBody (E : Env) (R : Rec) (f : FuncId) (args : List Value) (rc : Option (Value × Bool)) (h : Hp) : Option (Out × Option (Value × Bool) × Hp) :=
  match E.fn f with
  | none => none
  | some fn => match fn.body with
    | none => none
    | some body =>
      bif Nat.ble args.length fn.ntmps then
      match R.code ⟨f, fn.ntmps, none⟩ body ⟨(Tr.blank (.tuple #[]) fn.ntmps fn.ntmps).setAll 0 args, [], rc⟩ h with
      | none => none
      | some (.exit _, _, _) => none
      | some (.pan v, l, h') => match unwindA R l.dfs (some v) h' with
        | none => none
        | some (some v, h'') => some (.pan v, l.rc, h'')
        | some (none, h'') => match readRes E l.regs h'' fn.results.toList with
          | none => none
          | some vs => some (.ret (tupleOf vs), l.rc, h'')
      | some (_, l, h') => match unwindA R l.dfs none h' with
        | some (none, h'') => match readRes E l.regs h'' fn.results.toList with
          | none => none
          | some vs => some (.ret (tupleOf vs), l.rc, h'')
        | _ => none
      else none

def callStep (E : Env) (R : Rec) (f : FuncId) (args : List Value) (rc : Option (Value × Bool)) (h : Hp) : Option (Out × Option (Value × Bool) × Hp) :=
  match E.pre f args h with
  | none => callBody E R f args rc h
  | some (v, h') => match rc with
    | none => some (.ret v, none, h')
    | some _ => none

def next (E : Env) (R : Rec) : Rec := { call := callStep E R, code := codeStep E R }
def bot : Rec := { call := fun _ _ _ _ => none, code := fun _ _ _ _ => none }
def run (E : Env) : Nat → Rec
  | 0 => bot
  | n + 1 => next E (run E n)
end
end Go.Ab

/- The model's steps, a frame at a time. -/
namespace Go.Ab

structure FC where
  fn : FuncId
  kind : CallKind
  round : Option Nat
def FC.mk' (F : FC) (tmps : Array Value) (dfs : List Deferred) (todo : List Item) : Frame :=
  { fn := F.fn, tmps, todo, defers := dfs, mode := .run, kind := F.kind, roundOf := F.round }

section steps
variable {P : Program} {F : FC} {tmps : Array Value} {dfs : List Deferred} {k : List Item} {cs : List Frame} {w : World}

theorem st_skip : step P (lone (F.mk' tmps dfs (.code .skip :: k)) cs w) = .next (lone (F.mk' tmps dfs k) cs w) := step_lone_go (by rfl)
theorem st_label {l : Nat} : step P (lone (F.mk' tmps dfs (.code (.label l) :: k)) cs w) = .next (lone (F.mk' tmps dfs k) cs w) := step_lone_go (by rfl)
theorem st_inBlock {id : Nat} : step P (lone (F.mk' tmps dfs (.inBlock id :: k)) cs w) = .next (lone (F.mk' tmps dfs k) cs w) := step_lone_go (by rfl)
theorem st_inScope {b : Code} : step P (lone (F.mk' tmps dfs (.inScope b :: k)) cs w) = .next (lone (F.mk' tmps dfs k) cs w) := step_lone_go (by rfl)
theorem st_seq {a b : Code} : step P (lone (F.mk' tmps dfs (.code (.seq a b) :: k)) cs w) = .next (lone (F.mk' tmps dfs (.code a :: .code b :: k)) cs w) := step_lone_go (by rfl)
theorem st_block {id : Nat} {b : Code} : step P (lone (F.mk' tmps dfs (.code (.block id b) :: k)) cs w) = .next (lone (F.mk' tmps dfs (.code b :: .inBlock id :: k)) cs w) := step_lone_go (by rfl)
theorem st_loop {b : Code} : step P (lone (F.mk' tmps dfs (.code (.loop b) :: k)) cs w) = .next (lone (F.mk' tmps dfs (.code b :: .inLoop b :: k)) cs w) := step_lone_go (by rfl)
theorem st_inLoop {b : Code} : step P (lone (F.mk' tmps dfs (.inLoop b :: k)) cs w) = .next (lone (F.mk' tmps dfs (.code b :: .inLoop b :: k)) cs w) := step_lone_go (by rfl)
theorem st_scope {b : Code} : step P (lone (F.mk' tmps dfs (.code (.scope b) :: k)) cs w) = .next (lone (F.mk' tmps dfs (.code b :: .inScope b :: k)) cs w) := step_lone_go (by rfl)
theorem st_exit {id : Nat} {k' : List Item} (h : exitTo id k = some k') : step P (lone (F.mk' tmps dfs (.code (.exit id) :: k)) cs w) = .next (lone (F.mk' tmps dfs k') cs w) := step_lone_go (by simp [stepG, stepG.exec, FC.mk', h])
theorem st_region {id : Nat} {ops : Array Oper} : step P (lone (F.mk' tmps dfs (.code (.region id ops false) :: k)) cs w) = .next (lone (F.mk' tmps dfs (.inRegion ops (List.range ops.size) :: k)) cs w) := step_lone_go (by rfl)
theorem st_region_draw {id : Nat} {ops : Array Oper} : step P (lone (F.mk' tmps dfs (.code (.region id ops true) :: k)) cs w) =
    .next (lone (F.mk' tmps dfs (.inRegion ops (Region.schedule (P.follows .mixedOrders) ops (w.tape w.drawn (.order F.fn id))) :: k)) cs { w with drawn := w.drawn + 1 }) :=
  step_lone_go (by rfl)
theorem st_region_end {ops : Array Oper} : step P (lone (F.mk' tmps dfs (.inRegion ops [] :: k)) cs w) = .next (lone (F.mk' tmps dfs k) cs w) := step_lone_go (by rfl)

/-- What code sees of its temporaries. -/
def evalC (tmps : Array Value) : Operand → Value
  | .tmp t => tmps.getD t undef
  | .const v => v
  | .global g => .pointer (some ⟨g, 0, none⟩)
  | .func f => .func (.func f) #[] #[]
theorem eval_eq (todo : List Item) : (F.mk' tmps dfs todo).eval = evalC tmps := by rfl
theorem st_cond {c : Operand} {a b : Code} {t : Bool} (h : evalC tmps c = .bool t) : step P (lone (F.mk' tmps dfs (.code (.cond c a b) :: k)) cs w) = .next (lone (F.mk' tmps dfs (.code (if t then a else b) :: k)) cs w) :=
  step_lone_go (by
    have := congrFun (eval_eq (F := F) (tmps := tmps) (dfs := dfs) (.code (.cond c a b) :: k)) c
    simp_all[FC.mk',stepG,stepG.exec])

def putC (tmps : Array Value) (d : Option Tmp) (v : Value) : Array Value := match d with
  | some d => tmps.setIfInBounds d v
  | none => tmps
theorem finish_eq {ops : Array Oper} {i : Nat} {rest : List Nat} (v : Value) : (F.mk' tmps dfs (.inRegion ops (i :: rest) :: k)).finish v = F.mk' (putC tmps ((ops[i]?).bind (·.dst)) v) dfs (.inRegion ops rest :: k) := by
  rfl
theorem st_op_skip {ops : Array Oper} {i : Nat} {rest : List Nat} (h : ((ops[i]?).map (Region.wanted · (yielded ops tmps))).getD false = false) :
    step P (lone (F.mk' tmps dfs (.inRegion ops (i :: rest) :: k)) cs w) = .next (lone (F.mk' (putC tmps ((ops[i]?).bind (·.dst)) undef) dfs (.inRegion ops rest :: k)) cs w) := by
  rw [← finish_eq]
  exact step_lone_go (by
    simp_all[FC.mk',stepG,stepG.exec])
theorem stG_op {ops : Array Oper} {i : Nat} {rest : List Nat} {o : Oper} (ho : ops[i]? = some o) (hw : Region.wanted o (yielded ops tmps) = true) (hd : F.round = none ∨ ∀ c, o.op ≠ .defer c) :
    stepG P true { frame := F.mk' tmps dfs (.inRegion ops (i :: rest) :: k), callers := cs, status := .running, dying := none } w =
      stepG.apply P true (F.mk' tmps dfs (.inRegion ops (i :: rest) :: k)) cs none (execOp (evalC tmps) o) w := by
  grind[eval_eq,FC.mk',stepG,stepG.exec,stepG.oper,Frame.oper?]

section op
variable {ops : Array Oper} {i : Nat} {rest : List Nat} {o : Oper} {w' : World}
theorem st_value (ho : ops[i]? = some o) (hw : Region.wanted o (yielded ops tmps) = true) (hd : F.round = none ∨ ∀ c, o.op ≠ .defer c) {v : Value} (hr : (execOp (evalC tmps) o).run P w = .ok (.value v) w') :
    step P (lone (F.mk' tmps dfs (.inRegion ops (i :: rest) :: k)) cs w) = .next (lone (F.mk' (putC tmps o.dst v) dfs (.inRegion ops rest :: k)) cs w') := by
  have : F.mk' (putC tmps o.dst v) dfs (.inRegion ops rest :: k) = (F.mk' tmps dfs (.inRegion ops (i :: rest) :: k)).finish v := by rw [finish_eq, ho]; rfl
  rw [this]
  exact step_lone_go (by rw [stG_op ho hw hd]; simp [stepG.apply, hr])
theorem st_opskip (ho : ops[i]? = some o) (hw : Region.wanted o (yielded ops tmps) = true) (hd : F.round = none ∨ ∀ c, o.op ≠ .defer c) (hr : (execOp (evalC tmps) o).run P w = .ok .skip w') :
    step P (lone (F.mk' tmps dfs (.inRegion ops (i :: rest) :: k)) cs w) = .next (lone (F.mk' (putC tmps o.dst undef) dfs (.inRegion ops rest :: k)) cs w') := by
  have : F.mk' (putC tmps o.dst undef) dfs (.inRegion ops rest :: k) = (F.mk' tmps dfs (.inRegion ops (i :: rest) :: k)).finish undef := by rw [finish_eq, ho]; rfl
  rw [this]
  exact step_lone_go (by rw [stG_op ho hw hd]; simp [stepG.apply, hr])
theorem st_enter (ho : ops[i]? = some o) (hw : Region.wanted o (yielded ops tmps) = true) (hd : F.round = none ∨ ∀ c, o.op ≠ .defer c) {f : FuncId} {args : Array Value} (hr : (execOp (evalC tmps) o).run P w = .ok (.enter f args) w') :
    step P (lone (F.mk' tmps dfs (.inRegion ops (i :: rest) :: k)) cs w) = .next (lone (Frame.enter P f args .normal) (F.mk' tmps dfs (.inRegion ops (i :: rest) :: k) :: cs) w') :=
  step_lone_go (by rw [stG_op ho hw hd]; simp [stepG.apply, hr, FC.mk'])
theorem st_round (ho : ops[i]? = some o) (hw : Region.wanted o (yielded ops tmps) = true) (hd : F.round = none ∨ ∀ c, o.op ≠ .defer c) {l : Nat} {f : FuncId} {tm : Array Value} {a b : Code} (hr : (execOp (evalC tmps) o).run P w = .ok (.round l f tm a b) w') :
    step P (lone (F.mk' tmps dfs (.inRegion ops (i :: rest) :: k)) cs w) = .next (lone (Frame.round l f tm a b .normal) (F.mk' tmps dfs (.inRegion ops (i :: rest) :: k) :: cs) w') :=
  step_lone_go (by rw [stG_op ho hw hd]; simp [stepG.apply, hr, FC.mk'])
theorem st_defer (ho : ops[i]? = some o) (hw : Region.wanted o (yielded ops tmps) = true) (hd : F.round = none) {d : Deferred} (hr : (execOp (evalC tmps) o).run P w = .ok (.defer d) w') :
    step P (lone (F.mk' tmps dfs (.inRegion ops (i :: rest) :: k)) cs w) = .next (lone (F.mk' (putC tmps o.dst undef) (d :: dfs) (.inRegion ops rest :: k)) cs w') := by
  have : F.mk' (putC tmps o.dst undef) (d :: dfs) (.inRegion ops rest :: k) = (F.mk' tmps (d :: dfs) (.inRegion ops (i :: rest) :: k)).finish undef := by rw [finish_eq, ho]; rfl
  rw [this]
  exact step_lone_go (by rw [stG_op ho hw (.inl hd)]; simp [stepG.apply, hr, FC.mk'])
theorem st_panic (ho : ops[i]? = some o) (hw : Region.wanted o (yielded ops tmps) = true) (hd : F.round = none ∨ ∀ c, o.op ≠ .defer c) {v : Value} (hr : (execOp (evalC tmps) o).run P w = .halt (.panic v) w') :
    step P (lone (F.mk' tmps dfs (.inRegion ops (i :: rest) :: k)) cs w) = .next (lone { F.mk' tmps dfs (.inRegion ops (i :: rest) :: k) with mode := .panicking [{ v, recovered := false }] } cs w') :=
  step_lone_go (by rw [stG_op ho hw hd]; simp [stepG.apply, hr, Frame.raise, FC.mk'])
theorem st_recover_none (ho : ops[i]? = some o) (hw : Region.wanted o (yielded ops tmps) = true) (hd : F.round = none) (hr : (execOp (evalC tmps) o).run P w = .ok .recover w')
    (ht : tryRecover (F.mk' tmps dfs (.inRegion ops (i :: rest) :: k)) cs = none) :
    step P (lone (F.mk' tmps dfs (.inRegion ops (i :: rest) :: k)) cs w) = .next (lone (F.mk' (putC tmps o.dst .nilIface) dfs (.inRegion ops rest :: k)) cs w') := by
  have : F.mk' (putC tmps o.dst .nilIface) dfs (.inRegion ops rest :: k) = (F.mk' tmps dfs (.inRegion ops (i :: rest) :: k)).finish .nilIface := by rw [finish_eq, ho]; rfl
  rw [this]
  have hro : (F.mk' tmps dfs (.inRegion ops (i :: rest) :: k)).roundOf = none := hd
  exact step_lone_go (by simp_all[stG_op,stepG.apply])
theorem st_recover_some (ho : ops[i]? = some o) (hw : Region.wanted o (yielded ops tmps) = true) (hd : F.round = none) (hr : (execOp (evalC tmps) o).run P w = .ok .recover w') {v : Value} {cs' : List Frame}
    (ht : tryRecover (F.mk' tmps dfs (.inRegion ops (i :: rest) :: k)) cs = some (v, cs')) :
    step P (lone (F.mk' tmps dfs (.inRegion ops (i :: rest) :: k)) cs w) = .next (lone (F.mk' (putC tmps o.dst v) dfs (.inRegion ops rest :: k)) cs' w') := by
  have : F.mk' (putC tmps o.dst v) dfs (.inRegion ops rest :: k) = (F.mk' tmps dfs (.inRegion ops (i :: rest) :: k)).finish v := by rw [finish_eq, ho]; rfl
  rw [this]
  have hro : (F.mk' tmps dfs (.inRegion ops (i :: rest) :: k)).roundOf = none := hd
  exact step_lone_go (by simp_all[stG_op,stepG.apply])
end op

structure LeaveP (P : Program) (fr : Frame) (kind : CallKind) (v : Value) : Prop where
  mode : fr.mode = .panicking [{ v, recovered := false }]
  defers : fr.defers = []
  kind : fr.kind = kind
  fn : ∃ fn, P.funcs[fr.fn]? = some fn
theorem st_leave {fr c : Frame} {v : Value} (h : LeaveR P fr w .normal v) : step P (lone fr (c :: cs) w) = .next (lone (c.finish v) cs w) := by
  obtain ⟨fn, hf, hr⟩ := h.res
  exact step_lone_go (by simp [stepG, unwind, doReturn, h.mode, h.defers, h.kind, hf, hr])
theorem st_leave_panic {fr c : Frame} {kind : CallKind} {v : Value} (h : LeaveP P fr kind v) : step P (lone fr (c :: cs) w) = .next (lone (c.raise [{ v, recovered := false }]) cs w) := by
  obtain ⟨fn, hf⟩ := h.fn
  exact step_lone_go (by simp [stepG, unwind, Frame.catches, h.mode, h.defers, hf])
end steps
end Go.Ab

/- The model's steps: loops over functions, deferred calls. -/
namespace Go.Ab
section
variable {P : Program} {F : FC} {tmps : Array Value} {dfs : List Deferred} {k : List Item} {cs : List Frame} {w : World}

def setW (w : World) (c : Nat) (o : Obj) : World := { w with heap := w.heap.setIfInBounds c o }
def Plain : Obj → Prop
  | .cells .. => False
  | _ => True
theorem setObj_run {c : Nat} {o q : Obj} (hw : w.heap[c]? = some q) (hq : Plain q) : (setObj c o).run P w = .ok () (setW w c o) := by
  cases q <;> first | exact hq.elim | simp [setObj, Sem.run, hw, setW]
theorem getObj_run {c : Nat} {q : Obj} (hw : w.heap[c]? = some q) (hq : Plain q) : (getObj c).run P w = .ok q w := by
  cases q <;> first | exact hq.elim | simp [getObj, Sem.run, hw]
theorem getLoop_run {c : Nat} {r : Loop} (hw : w.heap[c]? = some (.loop r)) : (Instr.getLoop c).run P w = .ok r w := by
  unfold Instr.getLoop
  simp only [Sem.run_bind, getObj_run hw trivial, Result.andThen_ok, Sem.run_pure]
theorem beginRound_run {c : Nat} {r : Loop} (hw : w.heap[c]? = some (.loop r)) (hs : r.state = .ready) :
    (Instr.beginRound c).run P w = .ok () (setW w c (.loop { r with state := .busy })) := by
  unfold Instr.beginRound
  simp only [Sem.run_bind, getLoop_run hw, Result.andThen_ok, setObj_run hw trivial, hs, Sem.run_pure]
theorem endRound_run {c : Nat} {r : Loop} (hw : w.heap[c]? = some (.loop r)) (jump : Option Code) :
    (Instr.endRound c jump).run P w = .ok (.bool jump.isNone) (setW w c (.loop { r with state := if jump.isNone then .ready else .done, pending := jump })) := by
  unfold Instr.endRound
  simp only [Sem.run_bind, getLoop_run hw, Result.andThen_ok, setObj_run hw trivial, Sem.run_pure]
theorem endLoop_run {c : Nat} {r : Loop} (hw : w.heap[c]? = some (.loop r)) (hs : r.state ≠ .busy) :
    (Instr.endLoop c).run P w = .ok r.pending (setW w c (.loop { r with state := .exhausted })) := by
  unfold Instr.endLoop
  have : (r.state == LoopState.busy) = false := by grind
  simp only [Sem.run_bind, getLoop_run hw, Result.andThen_ok, this, Bool.false_eq_true, if_false, setObj_run hw trivial, Sem.run_pure]
theorem takeDeferred_run {c : Nat} {ds : List Deferred} (hw : w.heap[c]? = some (.deferred (some ds))) :
    (Instr.takeDeferred c).run P w = .ok ds (setW w c (.deferred none)) := by
  unfold Instr.takeDeferred
  simp only [Sem.run_bind, getObj_run hw trivial, Result.andThen_ok, setObj_run hw trivial, Sem.run_pure]

theorem st_beginRound {c : Nat} (hF : F.round = some c) {r : Loop} (hw : w.heap[c]? = some (.loop r)) (hs : r.state = .ready) :
    step P (lone (F.mk' tmps dfs (.beginRound :: k)) cs w) = .next (lone (F.mk' tmps dfs k) cs (setW w c (.loop { r with state := .busy }))) := by
  refine step_lone_go ?_
  simp_all[beginRound_run,stepG,stepG.exec,stepG.apply,FC.mk',Frame.finish]
def LeavesBy (todo : List Item) (jump : Option Code) : Prop :=
  (todo = [] ∧ jump = none) ∨ (∃ k0, todo = .code .ret :: k0 ∧ jump = some .ret) ∨ (∃ id k0, todo = .code (.exit id) :: k0 ∧ exitTo id k0 = none ∧ jump = some (.exit id))
theorem st_leaveRound {c : Nat} (hF : F.round = some c) (hk : F.kind = .normal) {r : Loop} (hw : w.heap[c]? = some (.loop r)) {todo : List Item} {jump : Option Code} (ht : LeavesBy todo jump) {c0 : Frame} :
    step P (lone (F.mk' tmps dfs todo) (c0 :: cs) w) =
      .next (lone (c0.finish (.bool jump.isNone)) cs (setW w c (.loop { r with state := if jump.isNone then .ready else .done, pending := jump }))) := by
  refine step_lone_go ?_
  have h1 := endRound_run (P := P) hw jump
  rcases ht with ⟨rfl, rfl⟩ | ⟨k0, rfl, rfl⟩ | ⟨id, k0, rfl, he, rfl⟩
  · simp [stepG, stepG.exec, FC.mk', hF, h1, doReturn, hk]
  · simp [stepG, stepG.exec, FC.mk', hF, h1, doReturn, hk]
  simp_all[stepG,stepG.exec,FC.mk',doReturn]
theorem st_leaveFn (hF : F.round = none) {todo : List Item} (ht : todo = [] ∨ ∃ k0, todo = .code .ret :: k0) :
    step P (lone (F.mk' tmps dfs todo) cs w) = .next (lone { F.mk' tmps dfs todo with mode := .returning } cs w) := by
  refine step_lone_go ?_
  rcases ht with rfl | ⟨k0, rfl⟩
  · simp [stepG, stepG.exec, FC.mk', hF]
  · simp [stepG, stepG.exec, FC.mk', hF]
theorem st_endRange {c : Nat} {r : Loop} (hw : w.heap[c]? = some (.loop r)) (hs : r.state ≠ .busy) :
    step P (lone (F.mk' tmps dfs (.endRangeFunc c :: k)) cs w) = .next (lone (F.mk' tmps dfs ((r.pending.map Item.code).toList ++ k)) cs (setW w c (.loop { r with state := .exhausted }))) := by
  refine step_lone_go ?_
  simp_all[endLoop_run,stepG,stepG.exec,FC.mk']

def pushW (w : World) (o : Obj) : World := { w with heap := w.heap.push o }
theorem newObj_run {o : Obj} : (newObj o).run P w = .ok w.heap.size (pushW w o) := by rfl
theorem enterLoop_fn {params : Array Tmp} {assign body : Code} :
    (Instr.enterLoop F.fn tmps params assign body none).run P w = .ok (w.heap.size + 1, [{ target := .collected w.heap.size, args := #[] }])
      (pushW (pushW w (.deferred (some []))) (.loop { state := .ready, pending := none, fn := F.fn, tmps, params, assign, body, defers := w.heap.size })) := by
  unfold Instr.enterLoop
  simp only [Sem.run_bind, newObj_run, Result.andThen_ok, Sem.run_pure]
  simp [pushW]
theorem enterLoop_round {c : Nat} {r : Loop} (hw : w.heap[c]? = some (.loop r)) {params : Array Tmp} {assign body : Code} :
    (Instr.enterLoop F.fn tmps params assign body (some c)).run P w = .ok (w.heap.size, [])
      (pushW w (.loop { state := .ready, pending := none, fn := F.fn, tmps, params, assign, body, defers := r.defers })) := by
  unfold Instr.enterLoop
  simp only [Sem.run_bind, newObj_run, Result.andThen_ok, Sem.run_pure, getLoop_run hw]
theorem st_range {f : Operand} {params : Array Tmp} {assign body : Code} {g : FuncId} {x y : Array Value} (hf : evalC tmps f = .func (.func g) x y)
    (hg : ∀ args w, (callFunc g args).run P w = .ok (.enter g args) w) {c : Nat} {mark : List Deferred} {w2 : World}
    (h0 : (Instr.enterLoop F.fn tmps params assign body F.round).run P w = .ok (c, mark) w2) :
    step P (lone (F.mk' tmps dfs (.code (.rangeFunc f params assign body) :: k)) cs w) =
      .next (lone (Frame.enter P g (x ++ #[.func (.yield c) #[] #[]] ++ y) .normal) (F.mk' tmps (mark ++ dfs) (.inRangeFunc c :: k) :: cs) w2) := by
  refine step_lone_go ?_
  have he := eval_eq (F := F) (tmps := tmps) (dfs := mark ++ dfs) (.inRangeFunc c :: k)
  simp only [FC.mk'] at he
  have hr : ∀ w', (do let d ← resolve (evalC tmps) { callee := .value f, args := #[.const (.func (.yield c) #[] #[])], argTypes := #[] } 0; invoke d.target d.args).run P w' =
      .ok (.enter g (x ++ #[.func (.yield c) #[] #[]] ++ y)) w' := by
    intro w'
    simp [resolve, hf, Deferred.ofValue, invoke, hg, show ∀ v, evalC tmps (.const v) = v from fun _ => rfl]
  simp_all[stepG,stepG.exec,FC.mk',stepG.apply]
end
end Go.Ab

/- What it means that the model follows the abstract machine; operations in a frame. -/
namespace Go.Ab

def RcRel (mu : Mu) : Option (Value × Bool) → Option (Value × Bool) → Prop
  | none, none => True
  | some (v, b), some (v', b') => b = b' ∧ VRel mu v v'
  | _, _ => False
theorem RcRel.mono {mu mu' : Mu} (h : Le mu mu') {a b : Option (Value × Bool)} (k : RcRel mu a b) : RcRel mu' a b := by
  cases a <;> cases b <;> simp only [RcRel] at *
  exact ⟨k.1, k.2.mono h⟩
theorem DRel.mono {mu mu' : Mu} (h : Le mu mu') {a b : Deferred} (k : DRel mu a b) : DRel mu' a b := by
  unfold DRel at *
  split
  · grind[VL.mono]
  · rename_i b e; rw [e] at k; obtain ⟨c, k1, k2⟩ := k; exact ⟨c, k1, k2.mono h⟩
  grind
abbrev DL (mu : Mu) := LR (DRel mu)

/-- The callers, of whom the first one panics with what may be recovered. -/
def callersOf : Option (Value × Bool) → List Frame → List Frame
  | none, cs => cs
  | some (v, b), c :: r => { c with mode := .panicking [{ v, recovered := b }] } :: r
  | some _, [] => []
def KOk (kind : CallKind) (cs0 : List Frame) : Option (Value × Bool) → Prop
  | none => kind = .normal ∨ (kind = .deferred ∧ ∃ c r, cs0 = c :: r ∧ c.mode = .returning)
  | some _ => kind = .deferred ∧ cs0 ≠ []
def RdRel (mu : Mu) : Option Nat → Option Nat → Prop
  | none, none => True
  | some b, some c => PRel mu b c
  | _, _ => False
theorem RdRel.mono {mu mu' : Mu} (h : Le mu mu') {a b : Option Nat} (k : RdRel mu a b) : RdRel mu' a b := by
  cases a <;> cases b <;> simp only [RdRel] at *
  exact k.mono h

theorem ev_rel {mu : Mu} {l : Loc} {n : Nat} {tmps : Array Value} (hr : RRel mu l.regs n tmps) (x : Operand)
    (hglob : ∀ g, g < 16 → ARel mu ⟨g, 0, none⟩ ⟨g, 0, none⟩) : VRel mu (l.ev x) (evalC tmps x) := by
  cases x with
  | tmp t =>
    simp only [Loc.ev, evalC]
    cases hv : l.regs.get t with
    | none =>
      have : n ≤ t := by
        rcases Nat.lt_or_ge t n with h1 | h1
        · obtain ⟨v, h2⟩ := Tr.get_some hr.sized h1; grind
        · exact h1
      rw [Array.getD_eq_getD_getElem?, Array.getElem?_eq_none (by rw [hr.size]; exact this)]
      exact .tuple rfl (by grind)
    | some v =>
      obtain ⟨v', h1, h2⟩ := hr.get t v hv
      simp_all
  | const v =>
    simp only [Loc.ev, evalC]
    cases hc : okConst v with
    | true => simp only [cond_true]; exact VRel.const mu hc
    | false => simp only [cond_false]; exact .poison v
  | global g =>
    simp only [Loc.ev, evalC]
    cases hg : Nat.blt g 16 with
    | true => simp only [cond_true]; exact .ptr (hglob g (by simp_all))
    | false => simp only [cond_false]; exact .poison _
  | func f => exact .fn rfl (by grind) rfl (by grind)

theorem put_rel {mu : Mu} {t : Tr Value} {n : Nat} {tmps : Array Value} (hr : RRel mu t n tmps) (d : Option Tmp) {v v' : Value} (hv : VRel mu v v') :
    RRel mu (match d with | none => t | some d => t.set d v) n (putC tmps d v') := by
  cases d with
  | none => exact hr
  | some d =>
    refine ⟨by simp [putC, hr.size], Tr.sized_set d v hr.sized, fun i u hu => ?_⟩
    rw [Tr.get_set] at hu
    simp only [putC]
    by_cases hc : d = i ∧ (t.get i).isSome
    · rw [if_pos hc] at hu
      cases hu
      obtain ⟨rfl, hs⟩ := hc
      have : d < tmps.size := by rw [hr.size]; exact (hr.sized d).1 hs
      grind
    · rw [if_neg hc] at hu
      obtain ⟨u', h1, h2⟩ := hr.get i u hu
      grind
end Go.Ab

/- The model follows the abstract machine: operations, rounds. -/
namespace Go.Ab

abbrev Glob (mu : Mu) : Prop := ∀ g, g < 16 → ARel mu ⟨g, 0, none⟩ ⟨g, 0, none⟩
theorem Glob.mono {mu mu' : Mu} (h : Le mu mu') (k : Glob mu) : Glob mu' := fun g hg => (k g hg).mono h

structure SR (P : Program) (cx : Cx) (l : Loc) (h : Hp) (mu : Mu) (w : World) (F : FC) (cs0 : List Frame) (tmps : Array Value) (dfs : List Deferred) (rcC : Option (Value × Bool)) : Prop where
  hr : HRel mu h w
  glob : Glob mu
  regs : RRel mu l.regs cx.nr tmps
  dfs : DL mu l.dfs dfs
  rc : RcRel mu l.rc rcC
  ko : KOk F.kind cs0 rcC
  fn : F.fn = cx.fn
  rd : RdRel mu cx.round F.round
  rn : F.round ≠ none → F.kind = .normal
  fs : (P.funcs[F.fn]?).isSome = true

theorem SR.step {P : Program} {cx : Cx} {l : Loc} {h h' : Hp} {mu mu' : Mu} {w w' : World} {F : FC} {cs0 : List Frame} {tmps : Array Value} {dfs : List Deferred} {rcC : Option (Value × Bool)}
    (s : SR P cx l h mu w F cs0 tmps dfs rcC) (hh : HRel mu' h' w') (le : Le mu mu') : SR P cx l h' mu' w' F cs0 tmps dfs rcC :=
  ⟨hh, s.glob.mono le, s.regs.mono le, LR.mono s.dfs fun _ _ => DRel.mono le, s.rc.mono le, s.ko, s.fn, s.rd.mono le, s.rn, s.fs⟩
theorem SR.put {P : Program} {cx : Cx} {l : Loc} {h : Hp} {mu : Mu} {w : World} {F : FC} {cs0 : List Frame} {tmps : Array Value} {dfs : List Deferred} {rcC : Option (Value × Bool)}
    (s : SR P cx l h mu w F cs0 tmps dfs rcC) (d : Option Tmp) {v v' : Value} (hv : VRel mu v v') : SR P cx (l.put d v) h mu w F cs0 (putC tmps d v') dfs rcC := by
  cases d with
  | none => exact s
  | some d => exact ⟨s.hr, s.glob, put_rel s.regs (some d) hv, s.dfs, s.rc, s.ko, s.fn, s.rd, s.rn, s.fs⟩

def Reach (P : Program) (F : FC) (cs0 : List Frame) (m : Machine) (k : List Item) (mu' : Mu) (w' : World) (tmps' : Array Value) (dfs' : List Deferred) (rcC' : Option (Value × Bool)) : Ex → Prop
  | .normal => Steps P m (lone (F.mk' tmps' dfs' k) (callersOf rcC' cs0) w')
  | .exit id => ∃ k0, exitTo id k0 = exitTo id k ∧ Steps P m (lone (F.mk' tmps' dfs' (.code (.exit id) :: k0)) (callersOf rcC' cs0) w')
  | .ret => ∃ k0, Steps P m (lone (F.mk' tmps' dfs' (.code .ret :: k0)) (callersOf rcC' cs0) w')
  | .pan v => ∃ v' todo, VRel mu' v v' ∧ Steps P m (lone { F.mk' tmps' dfs' todo with mode := .panicking [{ v := v', recovered := false }] } (callersOf rcC' cs0) w')
def Sim (P : Program) (cx : Cx) (h : Hp) (mu : Mu) (w : World) (F : FC) (cs0 : List Frame) (tmps : Array Value) (dfs : List Deferred) (rcC : Option (Value × Bool)) (todo k : List Item) (x : Ex) (l' : Loc) (h' : Hp) : Prop :=
  ∃ mu' w' tmps' dfs' rcC', SR P cx l' h' mu' w' F cs0 tmps' dfs' rcC' ∧ Ext mu h w mu' h' w' ∧
    Reach P F cs0 (lone (F.mk' tmps dfs todo) (callersOf rcC cs0) w) k mu' w' tmps' dfs' rcC' x
def CodeOk (P : Program) (f : Cx → Code → Loc → Hp → Option (Ex × Loc × Hp)) : Prop :=
  ∀ cx c l h x l' h', f cx c l h = some (x, l', h') → ∀ mu w F cs0 tmps dfs rcC k todo, SR P cx l h mu w F cs0 tmps dfs rcC →
    (todo = .code c :: k ∨ ∃ b, c = .loop b ∧ todo = .inLoop b :: k) → Sim P cx h mu w F cs0 tmps dfs rcC todo k x l' h'
/-- What a call leaves. -/
def CallEnd (P : Program) (fr : Frame) (w' : World) (kind : CallKind) (mu' : Mu) : Out → Prop
  | .ret v => ∃ v', LeaveR P fr w' kind v' ∧ VRel mu' v v'
  | .pan v => ∃ v', LeaveP P fr kind v' ∧ VRel mu' v v'
def CallOk (E : Env) (P : Program) (f : FuncId → List Value → Option (Value × Bool) → Hp → Option (Out × Option (Value × Bool) × Hp)) : Prop :=
  ∀ g args rc h o rc' h', f g args rc h = some (o, rc', h') → (∃ fn, E.fn g = some fn ∧ fn.body.isSome = true) ∧
    ∀ mu w args' rcC cs0 kind, HRel mu h w → Glob mu → VL mu args args'.toList → RcRel mu rc rcC → KOk kind cs0 rcC →
      ∃ mu' w' rcC' fr, HRel mu' h' w' ∧ Ext mu h w mu' h' w' ∧ RcRel mu' rc' rcC' ∧ KOk kind cs0 rcC' ∧
        Steps P (lone (Frame.enter P g args' kind) (callersOf rcC cs0) w) (lone fr (callersOf rcC' cs0) w') ∧
        CallEnd P fr w' kind mu' o ∧ fr.fn = g

/-- Where an operation's or a round's end leads. -/
def OutTo (P : Program) (mu' : Mu) (m : Machine) (good bad : Value → Machine) : Out → Prop
  | .ret v => ∃ v', VRel mu' v v' ∧ Steps P m (good v')
  | .pan v => ∃ v', VRel mu' v v' ∧ Steps P m (bad v')
def RegionTo (P : Program) (F : FC) (cs0 : List Frame) (m : Machine) (ops : Array Oper) (rest : List Nat) (k : List Item) (mu' : Mu) (w' : World) (tmps' : Array Value) (dfs' : List Deferred) (rcC' : Option (Value × Bool)) : Ex → Prop
  | .normal => Steps P m (lone (F.mk' tmps' dfs' (.inRegion ops rest :: k)) (callersOf rcC' cs0) w')
  | .pan v => Reach P F cs0 m k mu' w' tmps' dfs' rcC' (.pan v)
  | _ => False

theorem KOk.normal {cs0 : List Frame} {rcC : Option (Value × Bool)} (h : KOk .normal cs0 rcC) : rcC = none := by
  cases rcC with
  | none => rfl
  | some x => exact absurd h.1 (by simp)

/-- A loop that may be looked at. -/
theorem loop_at {mu : Mu} {h : Hp} {w : World} (hh : HRel mu h w) {b c : Nat} (hp : PRel mu b c) {r : ALoop} (hg : h.get b = some (.loop r)) :
    ∃ top r', mu b = .blk c 0 top ∧ w.heap[c]? = some (.loop r') ∧ LpRel mu r r' := by
  unfold PRel at hp
  cases hm : mu b with
  | none => grind
  | dead => have := hh.dead _ hm; grind
  | blk c' base top =>
    rw [hm] at hp
    obtain ⟨rfl, rfl⟩ := hp
    obtain ⟨y, o, h1, h2, h3⟩ := hh.blk _ c 0 top hm
    rw [hg] at h1; cases h1
    obtain ⟨_, r', rfl, h4⟩ := h3
    grind
theorem wset_setW {w : World} {c : Nat} {o q : Obj} (h : w.heap[c]? = some q) : WSet w (setW w c o) c o := wset_map ⟨_, h⟩
theorem loop_put {mu : Mu} {h : Hp} {w : World} (hh : HRel mu h w) {b c top : Nat} (hm : mu b = .blk c 0 top) {r r2 : ALoop} (hg : h.get b = some (.loop r)) {r' r2' : Loop} (hw : w.heap[c]? = some (.loop r')) (hl : LpRel mu r2 r2') :
    HRel mu (h.put b (.loop r2)) (setW w c (.loop r2')) ∧ Ext mu h w mu (h.put b (.loop r2)) (setW w c (.loop r2')) :=
  hrel_put hh hm (by grind) (wset_setW hw) ⟨rfl, r2', rfl, hl⟩

theorem setParams_rel {mu : Mu} {n : Nat} : ∀ (ps : List Tmp) (args args' : List Value) (regs : Tr Value) (tmps : Array Value) (r2 : Tr Value), setParams regs ps args = some r2 → RRel mu regs n tmps → VL mu args args' →
    ps.length = args'.length ∧ RRel mu r2 n ((ps.zip args').foldl (fun tmps (x : Tmp × Value) => tmps.setIfInBounds x.1 x.2) tmps)
  | [], [], args', regs, tmps, r2, h, hr, ha => by
    rw [ha.nil_left]; cases h; exact ⟨rfl, hr⟩
  | [], _ :: _, _, _, _, _, h, _, _ => by cases h
  | _ :: _, [], _, _, _, _, h, _, _ => by cases h
  | t :: ts, v :: vs, args', regs, tmps, r2, h, hr, ha => by
    obtain ⟨v', vs', rfl, h1, h2⟩ := ha.cons_left
    have h3 := put_rel hr (some t) h1
    obtain ⟨i1, i2⟩ := setParams_rel ts vs vs' (regs.set t v) (tmps.setIfInBounds t v') r2 h h3 h2
    exact ⟨by simp [i1], i2⟩

section
variable {E : Env} {P : Program} (ok : EOk E P) {R : Rec} (hc : CallOk E P R.call) (hcode : CodeOk P R.code)

theorem yield_run {w : World} {c : Nat} {r : Loop} (hw : w.heap[c]? = some (.loop r)) {args : Array Value} (hs : r.params.toList.length = args.toList.length) :
    (Instr.yield c args).run P w = .ok (.round c r.fn ((r.params.toList.zip args.toList).foldl (fun tmps (x : Tmp × Value) => tmps.setIfInBounds x.1 x.2) r.tmps) r.assign r.body) w := by
  unfold Instr.yield
  have h1 : args.size = r.params.size := by grind
  simp only [Sem.run_bind, getLoop_run hw, Result.andThen_ok, h1, ne_eq, not_true_eq_false, if_false, Sem.run_pure]
  rw [← Array.foldl_toList, Array.toList_zip]

include ok hcode in
theorem round_sim {mu : Mu} {h h' : Hp} {w : World} (hh : HRel mu h w) (hg : Glob mu) {b c : Nat} (hp : PRel mu b c) {args : List Value} {args' : Array Value} (ha : VL mu args args'.toList) {out : Out}
    (hl : roundStep E R b args h = some (out, h')) (c0 : Frame) (cs : List Frame) :
    ∃ f tm x y, (Instr.yield c args').run P w = .ok (.round c f tm x y) w ∧ ∃ mu' w', HRel mu' h' w' ∧ Ext mu h w mu' h' w' ∧
      OutTo P mu' (lone (Frame.round c f tm x y .normal) (c0 :: cs) w) (fun v' => lone (c0.finish v') cs w') (fun v' => lone (c0.raise [{ v := v', recovered := false }]) cs w') out := by
  unfold roundStep at hl
  split at hl
  next r hget =>
    obtain ⟨top, r', hm, hw, hlp⟩ := loop_at hh hp hget
    cases hfn : (E.fn r.fn).isSome with
    | false => grind
    | true =>
    rw [hfn] at hl
    simp only [cond_true] at hl
    split at hl
    next hst =>
      split at hl
      next => cases hl
      next regs hregs =>
        obtain ⟨hpl, hrr⟩ := setParams_rel r.params.toList args args'.toList r.regs r'.tmps regs hregs hlp.regs ha
        have hy := yield_run (P := P) hw (args := args') (by rw [hlp.params]; exact hpl)
        refine ⟨_, _, _, _, hy, ?_⟩
        let F : FC := ⟨r'.fn, .normal, some c⟩
        have hfs : (P.funcs[r'.fn]?).isSome = true := by
          rw [hlp.fn]
          cases he : E.fn r.fn with
          | none => grind
          | some fn => rw [ok.fn _ _ he]; rfl
        have sr : SR P ⟨r.fn, r.nr, some b⟩ ⟨regs, [], none⟩ h mu w F (c0 :: cs) ((r'.params.toList.zip args'.toList).foldl (fun tmps (x : Tmp × Value) => tmps.setIfInBounds x.1 x.2) r'.tmps) [] none :=
          ⟨hh, hg, by rw [hlp.params]; exact hrr, LR.nil, trivial, .inl rfl, hlp.fn, hp, fun _ => rfl, hfs⟩
        split at hl
        next l1 h1 hcode1 =>
          obtain ⟨mu1, w1, tmps1, dfs1, rc1, sr1, e1, s1⟩ := hcode _ _ _ _ _ _ _ hcode1 mu w F (c0 :: cs) _ [] none [.beginRound, .code r'.body] [.code r'.assign, .beginRound, .code r'.body] sr (.inl (by rw [hlp.assign]))
          have hrc1 := sr1.ko.normal
          subst hrc1
          split at hl
          next r1 hget1 =>
            obtain ⟨top1, r1', hm1, hw1, hlp1⟩ := loop_at sr1.hr (show PRel mu1 b c from sr1.rd) hget1
            split at hl
            next hst1 =>
              have hready : r1'.state = .ready := by
                have := hlp1.st; rw [hst1] at this
                cases hs : r1'.state <;> rw [hs] at this <;> first | rfl | cases this
              have b1 := st_beginRound (P := P) (F := F) (tmps := tmps1) (dfs := dfs1) (k := [.code r'.body]) (cs := c0 :: cs) (c := c) rfl hw1 hready
              have lp2 : LpRel mu1 { r1 with st := 1 } { r1' with state := .busy } := ⟨hlp1.fn, hlp1.regs, hlp1.params, hlp1.assign, hlp1.body, rfl, hlp1.pending⟩
              obtain ⟨hh2, e2⟩ := loop_put sr1.hr hm1 hget1 hw1 lp2
              have sr2 := sr1.step hh2 (Le.refl _)
              have e12 := Ext.trans e1 e2
              have s12 : Steps P (lone (Frame.round c r'.fn ((r'.params.toList.zip args'.toList).foldl (fun tmps (x : Tmp × Value) => tmps.setIfInBounds x.1 x.2) r'.tmps) r'.assign r'.body .normal) (c0 :: cs) w)
                  (lone (F.mk' tmps1 dfs1 [.code r'.body]) (c0 :: cs) (setW w1 c (.loop { r1' with state := .busy }))) := Steps.trans s1 (.one b1)
              have leave : ∀ {h3 : Hp} {mu3 : Mu} {w3 : World} {tmps3 : Array Value} {dfs3 : List Deferred} {todo : List Item} {jump : Option Code} {r2 : ALoop} {pe : Option Code} {st : Nat}, HRel mu3 h3 w3 → PRel mu3 b c → h3.get b = some (.loop r2) →
                  Ext mu1 (h1.put b (.loop { r1 with st := 1 })) (setW w1 c (.loop { r1' with state := .busy })) mu3 h3 w3 →
                  Steps P (lone (F.mk' tmps1 dfs1 [.code r'.body]) (c0 :: cs) (setW w1 c (.loop { r1' with state := .busy }))) (lone (F.mk' tmps3 dfs3 todo) (c0 :: cs) w3) →
                  LeavesBy todo jump → pe = jump → st = (if jump.isNone then 0 else 2) →
                  ∃ mu' w', HRel mu' (h3.put b (.loop { r2 with st := st, pending := pe })) w' ∧ Ext mu h w mu' (h3.put b (.loop { r2 with st := st, pending := pe })) w' ∧
                    ∃ v', VRel mu' (.bool jump.isNone) v' ∧ Steps P (lone (Frame.round c r'.fn ((r'.params.toList.zip args'.toList).foldl (fun tmps (x : Tmp × Value) => tmps.setIfInBounds x.1 x.2) r'.tmps) r'.assign r'.body .normal) (c0 :: cs) w) (lone (c0.finish v') cs w') := by
                intro h3 mu3 w3 tmps3 dfs3 todo jump r2 pe st hh3 hp3 hget3 e3 s3 hlv hpe hst
                obtain ⟨top3, r2', hm3, hw3, hlp3⟩ := loop_at hh3 hp3 hget3
                have b3 := st_leaveRound (P := P) (F := F) (tmps := tmps3) (dfs := dfs3) (cs := cs) (c := c) rfl rfl hw3 hlv (c0 := c0)
                have lp4 : LpRel mu3 { r2 with st := st, pending := pe } { r2' with state := if jump.isNone then .ready else .done, pending := jump } :=
                  ⟨hlp3.fn, hlp3.regs, hlp3.params, hlp3.assign, hlp3.body, by subst hst; cases jump <;> rfl, hpe.symm⟩
                obtain ⟨hh4, e4⟩ := loop_put hh3 hm3 hget3 hw3 lp4
                exact ⟨mu3, _, hh4, Ext.trans e12 (Ext.trans e3 e4), _, .bool _, Steps.trans s12 (Steps.trans s3 (.one b3))⟩
              split at hl
              next l3 h3 hcode3 =>
                obtain ⟨mu3, w3, tmps3, dfs3, rc3, sr3, e3, s3⟩ := hcode _ _ _ _ _ _ _ hcode3 mu1 _ F (c0 :: cs) _ _ none [] [.code r'.body] sr2 (.inl (by rw [hlp.body]))
                have hrc3 := sr3.ko.normal
                subst hrc3
                split at hl
                next r2 hget2 =>
                  cases hl
                  exact leave sr3.hr (show PRel mu3 b c from sr3.rd) hget2 e3 s3 (.inl ⟨rfl, rfl⟩) rfl rfl
                next => cases hl
              next id l3 h3 hcode3 =>
                obtain ⟨mu3, w3, tmps3, dfs3, rc3, sr3, e3, k0, hk0, s3⟩ := hcode _ _ _ _ _ _ _ hcode3 mu1 _ F (c0 :: cs) _ _ none [] [.code r'.body] sr2 (.inl (by rw [hlp.body]))
                have hrc3 := sr3.ko.normal
                subst hrc3
                split at hl
                next r2 hget2 =>
                  cases hl
                  exact leave sr3.hr (show PRel mu3 b c from sr3.rd) hget2 e3 s3 (.inr (.inr ⟨id, k0, rfl, hk0.trans rfl, rfl⟩)) rfl rfl
                next => cases hl
              next l3 h3 hcode3 =>
                obtain ⟨mu3, w3, tmps3, dfs3, rc3, sr3, e3, k0, s3⟩ := hcode _ _ _ _ _ _ _ hcode3 mu1 _ F (c0 :: cs) _ _ none [] [.code r'.body] sr2 (.inl (by rw [hlp.body]))
                have hrc3 := sr3.ko.normal
                subst hrc3
                split at hl
                next r2 hget2 =>
                  cases hl
                  exact leave sr3.hr (show PRel mu3 b c from sr3.rd) hget2 e3 s3 (.inr (.inl ⟨k0, rfl, rfl⟩)) rfl rfl
                next => cases hl
              next v l3 h3 hcode3 =>
                obtain ⟨mu3, w3, tmps3, dfs3, rc3, sr3, e3, v', todo, hv, s3⟩ := hcode _ _ _ _ _ _ _ hcode3 mu1 _ F (c0 :: cs) _ _ none [] [.code r'.body] sr2 (.inl (by rw [hlp.body]))
                have hrc3 := sr3.ko.normal
                subst hrc3
                split at hl
                next hd =>
                  cases hl
                  have hd3 := sr3.dfs
                  rw [hd] at hd3
                  have := LR.nil_left hd3
                  subst this
                  have lv : LeaveP P { F.mk' tmps3 [] todo with mode := .panicking [{ v := v', recovered := false }] } .normal v' := ⟨rfl, rfl, rfl, by
                    obtain ⟨fn, h⟩ := Option.isSome_iff_exists.1 hfs; exact ⟨fn, h⟩⟩
                  exact ⟨mu3, w3, sr3.hr, Ext.trans e12 e3, v', hv, Steps.trans s12 (Steps.trans s3 (.one (st_leave_panic lv)))⟩
                next => cases hl
              next => cases hl
            next => cases hl
          next => cases hl
        next => cases hl
    next => cases hl
  next => cases hl
end
end Go.Ab

/- The model follows the abstract machine: operations in a frame, regions in text order. -/
namespace Go.Ab
section
variable {E : Env} {P : Program} (ok : EOk E P) {R : Rec} (hc : CallOk E P R.call) (hcode : CodeOk P R.code)

include ok hc hcode in
theorem opVal_sim {mu : Mu} {h h' : Hp} {w : World} (hh : HRel mu h w) (hg : Glob mu) {ρ : Operand → Value} {tmps : Array Value} (hρ : ∀ x, VRel mu (ρ x) (evalC tmps x)) {F : FC} {dfs : List Deferred} {k : List Item} {cs : List Frame}
    {ops : Array Oper} {i : Nat} {rest : List Nat} {o : Oper} (ho : ops[i]? = some o) (hw : Region.wanted o (yielded ops tmps) = true) {out : Out} (hl : opVal E R (aop E ρ h o.op) = some (out, h')) :
    ∃ mu' w', HRel mu' h' w' ∧ Ext mu h w mu' h' w' ∧
      OutTo P mu' (lone (F.mk' tmps dfs (.inRegion ops (i :: rest) :: k)) cs w) (fun v' => lone (F.mk' (putC tmps o.dst v') dfs (.inRegion ops rest :: k)) cs w')
        (fun v' => lone { F.mk' tmps dfs (.inRegion ops (i :: rest) :: k) with mode := .panicking [{ v := v', recovered := false }] } cs w') out := by
  have hd : F.round = none ∨ ∀ c, o.op ≠ .defer c := by
    right
    intro c hcc
    rw [hcc] at hl
    simp only [aop] at hl
    split at hl
    · split at hl <;> cases hl
    · cases hl
  have hfin : ∀ v, (F.mk' tmps dfs (.inRegion ops (i :: rest) :: k)).finish v = F.mk' (putC tmps o.dst v) dfs (.inRegion ops rest :: k) := by
    intro v; rw [finish_eq, ho]; rfl
  cases ha : aop E ρ h o.op with
  | none => rw [ha] at hl; cases hl
  | some q =>
    obtain ⟨nx, h1⟩ := q
    rw [ha] at hl
    have hres := aop_run (P := P) ok hh hρ (o := o) ha
    cases nx with
    | val v =>
      cases hl
      obtain ⟨v', mu', w', g1, g2, g3, g4⟩ := hres
      exact ⟨mu', w', g2, g3, v', g4, .one (st_value ho hw hd g1)⟩
    | skip =>
      cases hl
      obtain ⟨mu', w', g1, g2, g3⟩ := hres
      exact ⟨mu', w', g2, g3, undef, .tuple rfl (by grind), .one (st_opskip ho hw hd g1)⟩
    | call f args =>
      obtain ⟨rfl, args', g1, g2⟩ := hres
      simp only [opVal] at hl
      split at hl
      next x rc' h2 hcall =>
        cases hl
        obtain ⟨⟨fn, hfn, hbody⟩, hs⟩ := hc _ _ _ _ _ _ _ hcall
        obtain ⟨mu', w', rcC', fr, k1, k2, k3, k4, k5, k6, _⟩ := hs mu w args' none (F.mk' tmps dfs (.inRegion ops (i :: rest) :: k) :: cs) .normal hh hg g2 trivial (.inl rfl)
        have := k4.normal
        subst this
        have hen := st_enter (P := P) (F := F) (dfs := dfs) (k := k) (cs := cs) (rest := rest) ho hw hd (g1.trans (ok.call f fn args' w hfn hbody))
        refine ⟨mu', w', k1, k2, ?_⟩
        cases out with
        | ret v =>
          obtain ⟨v', l1, l2⟩ := k6
          refine ⟨v', l2, Steps.trans (.one hen) (Steps.trans k5 (.one ?_))⟩
          show step P _ = .next (lone (F.mk' (putC tmps o.dst v') dfs (.inRegion ops rest :: k)) cs w')
          rw [← hfin]; exact st_leave l1
        | pan v =>
          obtain ⟨v', l1, l2⟩ := k6
          exact ⟨v', l2, Steps.trans (.one hen) (Steps.trans k5 (.one (st_leave_panic l1)))⟩
      next => cases hl
    | yield b args =>
      obtain ⟨rfl, c, args', g1, g2, g3⟩ := hres
      simp only [opVal] at hl
      obtain ⟨f, tm, x, y, y1, mu', w', k1, k2, k3⟩ := round_sim ok hcode hh hg g2 g3 hl (F.mk' tmps dfs (.inRegion ops (i :: rest) :: k)) cs
      have hen := st_round (P := P) (F := F) (dfs := dfs) (k := k) (cs := cs) (rest := rest) ho hw hd (g1.trans y1)
      refine ⟨mu', w', k1, k2, ?_⟩
      cases out with
      | ret v =>
        obtain ⟨v', l2, l1⟩ := k3
        refine ⟨v', l2, Steps.trans (.one hen) ?_⟩
        grind
      | pan v =>
        obtain ⟨v', l2, l1⟩ := k3
        exact ⟨v', l2, Steps.trans (.one hen) l1⟩
    | panic v =>
      cases hl
      obtain ⟨rfl, v', g1, g2⟩ := hres
      exact ⟨mu, w, hh, Ext.refl mu _ w hh, v', g2, .one (st_panic ho hw hd g1)⟩
    | recov => cases hl
    | defer d => cases hl

include ok hc hcode in
theorem stepOp_sim {cx : Cx} {l l' : Loc} {h h' : Hp} {mu : Mu} {w : World} {F : FC} {cs0 : List Frame} {tmps : Array Value} {dfs : List Deferred} {rcC : Option (Value × Bool)} (s : SR P cx l h mu w F cs0 tmps dfs rcC)
    {k : List Item} {ops : Array Oper} {i : Nat} {rest : List Nat} {o : Oper} (ho : ops[i]? = some o) (hw : Region.wanted o (yielded ops tmps) = true) {x : Ex} (hl : stepOp E R cx o l h = some (x, l', h')) :
    ∃ mu' w' tmps' dfs' rcC', SR P cx l' h' mu' w' F cs0 tmps' dfs' rcC' ∧ Ext mu h w mu' h' w' ∧
      RegionTo P F cs0 (lone (F.mk' tmps dfs (.inRegion ops (i :: rest) :: k)) (callersOf rcC cs0) w) ops rest k mu' w' tmps' dfs' rcC' x := by
  have hρ : ∀ x, VRel mu (l.ev x) (evalC tmps x) := fun x => ev_rel s.regs x s.glob
  unfold stepOp at hl
  have plain : ∀ {r : Option (ANext × Hp)}, aop E l.ev h o.op = r → ofOut o l (opVal E R r) = some (x, l', h') → ∃ mu' w' tmps' dfs' rcC', SR P cx l' h' mu' w' F cs0 tmps' dfs' rcC' ∧ Ext mu h w mu' h' w' ∧
      RegionTo P F cs0 (lone (F.mk' tmps dfs (.inRegion ops (i :: rest) :: k)) (callersOf rcC cs0) w) ops rest k mu' w' tmps' dfs' rcC' x := by
    intro r hr hl
    cases hv : opVal E R r with
    | none => rw [hv] at hl; cases hl
    | some q =>
      obtain ⟨out, h1⟩ := q
      rw [hv] at hl
      rw [← hr] at hv
      obtain ⟨mu', w', g1, g2, g3⟩ := opVal_sim ok hc hcode s.hr s.glob hρ (F := F) (dfs := dfs) (k := k) (cs := callersOf rcC cs0) (rest := rest) ho hw hv
      have s' := s.step g1 (g2.le s.hr)
      cases out with
      | ret v =>
        cases hl
        obtain ⟨v', k1, k2⟩ := g3
        exact ⟨mu', w', _, dfs, rcC, s'.put o.dst k1, g2, k2⟩
      | pan v =>
        cases hl
        obtain ⟨v', k1, k2⟩ := g3
        exact ⟨mu', w', tmps, dfs, rcC, s', g2, v', _, k1, k2⟩
  cases ha : aop E l.ev h o.op with
  | none => grind
  | some q =>
    obtain ⟨nx, h1⟩ := q
    rw [ha] at hl
    have hres := aop_run (P := P) ok s.hr hρ (o := o) ha
    cases nx with
    | val v => grind
    | skip => grind
    | call f args => grind
    | yield b args => grind
    | panic v => grind
    | recov =>
      obtain ⟨rfl, g1⟩ := hres
      simp only [] at hl
      cases hr : cx.round with
      | some r => grind
      | none =>
        rw [hr] at hl
        simp only [] at hl
        have hF : F.round = none := by
          have := s.rd; rw [hr] at this
          cases hf : F.round with
          | none => rfl
          | some c => rw [hf] at this; exact this.elim
        have hrc := s.rc
        have none_case : tryRecover (F.mk' tmps dfs (.inRegion ops (i :: rest) :: k)) (callersOf rcC cs0) = none →
            ∃ mu' w' tmps' dfs' rcC', SR P cx (l.put o.dst .nilIface) h1 mu' w' F cs0 tmps' dfs' rcC' ∧ Ext mu h1 w mu' h1 w' ∧
              Steps P (lone (F.mk' tmps dfs (.inRegion ops (i :: rest) :: k)) (callersOf rcC cs0) w) (lone (F.mk' tmps' dfs' (.inRegion ops rest :: k)) (callersOf rcC' cs0) w') := by
          intro ht
          exact ⟨mu, w, _, dfs, rcC, s.put o.dst .nili, Ext.refl mu _ w s.hr, .one (st_recover_none ho hw hF g1 ht)⟩
        cases hlr : l.rc with
        | none =>
          rw [hlr] at hl hrc
          cases hl
          apply none_case
          cases rcC with
          | some y => exact hrc.elim
          | none =>
            rcases s.ko with hk | ⟨hk, c, r, rfl, hm⟩
            · simp [tryRecover, FC.mk', hk]
            · simp [tryRecover, FC.mk', hk, callersOf, hm]
        | some y =>
          obtain ⟨v, b⟩ := y
          rw [hlr] at hl hrc
          cases rcC with
          | none => exact hrc.elim
          | some z =>
            obtain ⟨v', b'⟩ := z
            obtain ⟨rfl, hv⟩ := hrc
            obtain ⟨hk, hne⟩ := s.ko
            cases cs0 with
            | nil => grind
            | cons c r =>
              cases b with
              | true =>
                cases hl
                apply none_case
                simp [tryRecover, FC.mk', hk, callersOf]
              | false =>
                cases hl
                have ht : tryRecover (F.mk' tmps dfs (.inRegion ops (i :: rest) :: k)) (callersOf (some (v', false)) (c :: r)) = some (v', callersOf (some (v', true)) (c :: r)) := by
                  simp [tryRecover, FC.mk', hk, callersOf]
                have s2 : SR P cx { l with rc := some (v, true) } h' mu w F (c :: r) tmps dfs (some (v', true)) :=
                  ⟨s.hr, s.glob, s.regs, s.dfs, ⟨rfl, hv⟩, ⟨hk, by simp⟩, s.fn, s.rd, s.rn, s.fs⟩
                exact ⟨mu, w, _, dfs, _, s2.put o.dst hv, Ext.refl mu _ w s.hr, .one (st_recover_some ho hw hF g1 ht)⟩
    | defer d =>
      obtain ⟨rfl, d', g1, g2⟩ := hres
      simp only [] at hl
      cases hr : cx.round with
      | some r => grind
      | none =>
        rw [hr] at hl
        cases hl
        have hF : F.round = none := by
          have := s.rd; rw [hr] at this
          cases hf : F.round with
          | none => rfl
          | some c => rw [hf] at this; exact this.elim
        have s2 : SR P cx { l with dfs := d :: l.dfs } h' mu w F cs0 tmps (d' :: dfs) rcC :=
          ⟨s.hr, s.glob, s.regs, LR.cons g2 s.dfs, s.rc, s.ko, s.fn, s.rd, s.rn, s.fs⟩
        exact ⟨mu, w, _, _, rcC, s2.put o.dst (v' := undef) (.tuple rfl (by grind)), Ext.refl mu _ w s.hr, .one (st_defer ho hw hF g1)⟩

omit ok in
theorem guard_rel {mu : Mu} {ops : Array Oper} {t : Tr Value} {n : Nat} {tmps : Array Value} (hr : RRel mu t n tmps) {o : Oper} {b : Bool} (hg : guardOk ops.toList t o = some b) : Region.wanted o (yielded ops tmps) = b := by
  unfold guardOk at hg
  unfold Region.wanted
  cases hgu : o.guard with
  | none => grind
  | some q =>
    obtain ⟨j, want⟩ := q
    rw [hgu] at hg
    simp only [] at hg ⊢
    unfold yielded
    cases hj : ops[j]? with
    | none => grind
    | some o' =>
      rw [Array.getElem?_toList, hj] at hg
      simp only [Option.bind_some] at hg ⊢
      cases hd : o'.dst with
      | none => grind
      | some d =>
        rw [hd] at hg
        simp only [Option.bind_some] at hg ⊢
        split at hg
        next b' hb =>
          obtain ⟨v', h1, h2⟩ := hr.get d _ hb
          cases h2
          rw [h1]
          cases hg
          grind
        next x hb =>
          obtain ⟨v', h1, h2⟩ := hr.get d _ hb
          rw [h1]
          cases hg
          cases h2
          rfl
        next => cases hg

include ok hc hcode in
theorem evOps_sim {cx : Cx} {ops : Array Oper} {F : FC} {cs0 : List Frame} {k : List Item} : ∀ (os : List Oper) (i : Nat) (l l' : Loc) (h h' : Hp) (mu : Mu) (w : World) (tmps : Array Value) (dfs : List Deferred) (rcC : Option (Value × Bool)) (x : Ex),
    ops.toList.drop i = os → SR P cx l h mu w F cs0 tmps dfs rcC → evOps E R cx ops.toList os l h = some (x, l', h') →
    Sim P cx h mu w F cs0 tmps dfs rcC (.inRegion ops (List.range' i os.length) :: k) k x l' h' := by
  intro os
  induction os with
  | nil =>
    intro i l l' h h' mu w tmps dfs rcC x hd s hl
    simp only [evOps] at hl
    cases hl
    exact ⟨mu, w, tmps, dfs, rcC, s, Ext.refl mu h w s.hr, .one st_region_end⟩
  | cons o os ih =>
    intro i l l' h h' mu w tmps dfs rcC x hd s hl
    have ho : ops[i]? = some o := by
      have := congrArg (·[0]?) hd
      simpa using this
    have hd' : ops.toList.drop (i + 1) = os := by
      have := congrArg (List.drop 1) hd
      simpa [Nat.add_comm] using this
    simp only [evOps] at hl
    rw [List.length_cons, List.range'_succ]
    cases hg : guardOk ops.toList l.regs o with
    | none => grind
    | some b =>
      have hw := guard_rel s.regs hg
      rw [hg] at hl
      cases b with
      | false =>
        simp only [] at hl
        have hstep := st_op_skip (P := P) (F := F) (tmps := tmps) (dfs := dfs) (k := k) (cs := callersOf rcC cs0) (w := w) (ops := ops) (i := i) (rest := List.range' (i + 1) os.length) (by grind)
        rw [ho] at hstep
        obtain ⟨mu', w', tmps', dfs', rcC', s', e', r'⟩ := ih (i + 1) _ _ _ _ _ _ _ _ _ _ hd' (s.put o.dst (v' := undef) (.tuple rfl (by grind))) hl
        refine ⟨mu', w', tmps', dfs', rcC', s', e', ?_⟩
        cases x with
        | normal => exact .head hstep r'
        | exit id => obtain ⟨k0, a, b⟩ := r'; exact ⟨k0, a, .head hstep b⟩
        | ret => obtain ⟨k0, b⟩ := r'; exact ⟨k0, .head hstep b⟩
        | pan v => obtain ⟨v', td, a, b⟩ := r'; exact ⟨v', td, a, .head hstep b⟩
      | true =>
        simp only [] at hl
        cases hs : stepOp E R cx o l h with
        | none => grind
        | some q =>
          obtain ⟨x1, l1, h1⟩ := q
          rw [hs] at hl
          obtain ⟨mu1, w1, tmps1, dfs1, rcC1, s1, e1, r1⟩ := stepOp_sim ok hc hcode s (k := k) (rest := List.range' (i + 1) os.length) ho hw hs
          cases x1 with
          | normal =>
            simp only [] at hl r1
            obtain ⟨mu', w', tmps', dfs', rcC', s', e', r'⟩ := ih (i + 1) _ _ _ _ _ _ _ _ _ _ hd' s1 hl
            refine ⟨mu', w', tmps', dfs', rcC', s', Ext.trans e1 e', ?_⟩
            cases x with
            | normal => exact Steps.trans r1 r'
            | exit id => obtain ⟨k0, a, b⟩ := r'; exact ⟨k0, a, Steps.trans r1 b⟩
            | ret => obtain ⟨k0, b⟩ := r'; exact ⟨k0, Steps.trans r1 b⟩
            | pan v => obtain ⟨v', td, a, b⟩ := r'; exact ⟨v', td, a, Steps.trans r1 b⟩
          | exit id => exact r1.elim
          | ret => exact r1.elim
          | pan v =>
            cases hl
            exact ⟨mu1, w1, tmps1, dfs1, rcC1, s1, e1, r1⟩
end
end Go.Ab

/- The model follows the abstract machine: code, calls. -/
namespace Go.Ab

theorem Reach.pre {P : Program} {F : FC} {cs0 : List Frame} {m m1 : Machine} {k : List Item} {mu' : Mu} {w' : World} {tmps' : Array Value} {dfs' : List Deferred} {rcC' : Option (Value × Bool)} {x : Ex}
    (h : Steps P m m1) (r : Reach P F cs0 m1 k mu' w' tmps' dfs' rcC' x) : Reach P F cs0 m k mu' w' tmps' dfs' rcC' x := by
  cases x with
  | normal => exact Steps.trans h r
  | exit id => obtain ⟨k0, a, b⟩ := r; exact ⟨k0, a, Steps.trans h b⟩
  | ret => obtain ⟨k0, b⟩ := r; exact ⟨k0, Steps.trans h b⟩
  | pan v => obtain ⟨v', td, a, b⟩ := r; exact ⟨v', td, a, Steps.trans h b⟩
theorem Sim.pre {P : Program} {cx : Cx} {h h1 : Hp} {mu mu1 : Mu} {w w1 : World} {F : FC} {cs0 : List Frame} {tmps tmps1 : Array Value} {dfs dfs1 : List Deferred} {rcC rcC1 : Option (Value × Bool)} {todo todo1 k : List Item} {x : Ex} {l' : Loc} {h' : Hp}
    (hs : Steps P (lone (F.mk' tmps dfs todo) (callersOf rcC cs0) w) (lone (F.mk' tmps1 dfs1 todo1) (callersOf rcC1 cs0) w1)) (e : Ext mu h w mu1 h1 w1)
    (s : Sim P cx h1 mu1 w1 F cs0 tmps1 dfs1 rcC1 todo1 k x l' h') : Sim P cx h mu w F cs0 tmps dfs rcC todo k x l' h' := by
  obtain ⟨mu', w', tmps', dfs', rcC', a, b, c⟩ := s
  exact ⟨mu', w', tmps', dfs', rcC', a, Ext.trans e b, c.pre hs⟩
/-- An end that is not the normal one, seen from further out. -/
theorem Reach.out {P : Program} {F : FC} {cs0 : List Frame} {m : Machine} {k k2 : List Item} {mu' : Mu} {w' : World} {tmps' : Array Value} {dfs' : List Deferred} {rcC' : Option (Value × Bool)} {x : Ex}
    (hk : ∀ id, x = .exit id → exitTo id k = exitTo id k2) (hn : x ≠ .normal) (r : Reach P F cs0 m k mu' w' tmps' dfs' rcC' x) : Reach P F cs0 m k2 mu' w' tmps' dfs' rcC' x := by
  cases x with
  | normal => grind
  | exit id => obtain ⟨k0, a, b⟩ := r; exact ⟨k0, a.trans (hk id rfl), b⟩
  | ret => exact r
  | pan v => exact r

def DrawOk (E : Env) (P : Program) (R : Rec) : Prop :=
  ∀ cx id ops l h l' h' q ps tr, plan E (hoist ops.toList) = some (q, ps) → evOpsD E R (hoist ops.toList) q (hoist ops.toList) 0 l h [] = some (l', h', tr) → pairsOk tr ps = true → ∀ mu w F cs0 tmps dfs rcC k, SR P cx l h mu w F cs0 tmps dfs rcC →
    Sim P cx h mu w F cs0 tmps dfs rcC (.code (.region id ops true) :: k) k .normal l' h'
def SplitSim (E : Env) (P : Program) (R : Rec) : Prop :=
  ∀ cx id (ops : Array Oper) l h l' h' x, cutD E R cx ops.toList l h = some (x, l', h') → ∀ mu w F cs0 tmps dfs rcC k, SR P cx l h mu w F cs0 tmps dfs rcC →
    Sim P cx h mu w F cs0 tmps dfs rcC (.code (.region id ops true) :: k) k x l' h'

section
variable {E : Env} {P : Program} (ok : EOk E P) {R : Rec} (hc : CallOk E P R.call) (hcode : CodeOk P R.code)

theorem dead_at {mu : Mu} {h : Hp} {w : World} (hh : HRel mu h w) {b c : Nat} (hp : PRel mu b c) (hg : h.get b = some .dfr) : ∃ top, mu b = .blk c 0 top ∧ w.heap[c]? = some (.deferred (some [])) := by
  unfold PRel at hp
  cases hm : mu b with
  | none => grind
  | dead => have := hh.dead _ hm; rw [hg] at this; cases this
  | blk c' base top =>
    rw [hm] at hp
    obtain ⟨rfl, rfl⟩ := hp
    obtain ⟨y, o, h1, h2, h3⟩ := hh.blk _ c 0 top hm
    rw [hg] at h1; cases h1
    obtain ⟨_, rfl⟩ := h3
    exact ⟨top, rfl, h2⟩

theorem wnew_pushW (w : World) (o : Obj) : WNew w (pushW w o) o := ⟨rfl, rfl, rfl, rfl⟩
theorem loop_new {mu : Mu} {h : Hp} {w : World} (hh : HRel mu h w) {r : ALoop} {r' : Loop} (hl : LpRel mu r r') :
    HRel (upd mu h.n (.blk w.heap.size 0 0)) (h.new (.loop r)) (pushW w (.loop r')) ∧ Ext mu h w (upd mu h.n (.blk w.heap.size 0 0)) (h.new (.loop r)) (pushW w (.loop r')) :=
  hrel_new hh (wnew_pushW w _) ⟨rfl, r', rfl, hl⟩
theorem dfr_new {mu : Mu} {h : Hp} {w : World} (hh : HRel mu h w) :
    HRel (upd mu h.n (.blk w.heap.size 0 0)) (h.new .dfr) (pushW w (.deferred (some []))) ∧ Ext mu h w (upd mu h.n (.blk w.heap.size 0 0)) (h.new .dfr) (pushW w (.deferred (some []))) :=
  hrel_new hh (wnew_pushW w _) ⟨rfl, rfl⟩

theorem range_start {cx : Cx} {params : Array Tmp} {assign body : Code} {l : Loc} {h h1 : Hp} {d : Nat} {dfsA : List Deferred}
    (hpre : (match cx.round with
      | none => some (h.new .dfr, h.n, ({ target := .collected h.n, args := #[] } : Deferred) :: l.dfs)
      | some r => match h.get r with
        | some (.loop x) => some (h, x.defers, l.dfs)
        | _ => none) = some (h1, d, dfsA))
    {mu : Mu} {w : World} {F : FC} {cs0 : List Frame} {tmps : Array Value} {dfs : List Deferred} {rcC : Option (Value × Bool)} (s : SR P cx l h mu w F cs0 tmps dfs rcC) :
    ∃ mu2 w2 c mark, (Instr.enterLoop F.fn tmps params assign body F.round).run P w = .ok (c, mark) w2 ∧ PRel mu2 h1.n c ∧
      SR P cx { l with dfs := dfsA } (h1.new (.loop { fn := cx.fn, regs := l.regs, nr := cx.nr, params, assign, body, st := 0, pending := none, defers := d })) mu2 w2 F cs0 tmps (mark ++ dfs) rcC ∧
      Ext mu h w mu2 (h1.new (.loop { fn := cx.fn, regs := l.regs, nr := cx.nr, params, assign, body, st := 0, pending := none, defers := d })) w2 := by
  cases hr : cx.round with
  | none =>
    rw [hr] at hpre
    cases hpre
    have hF : F.round = none := by
      have := s.rd; rw [hr] at this
      cases hf : F.round with
      | none => rfl
      | some c => rw [hf] at this; exact this.elim
    obtain ⟨a1, a2⟩ := dfr_new s.hr
    have sr1 := s.step a1 (a2.le s.hr)
    have lp : LpRel (upd mu h.n (.blk w.heap.size 0 0)) { fn := cx.fn, regs := l.regs, nr := cx.nr, params, assign, body, st := 0, pending := none, defers := h.n }
        { state := .ready, pending := none, fn := F.fn, tmps, params, assign, body, defers := w.heap.size } := ⟨s.fn, sr1.regs, rfl, rfl, rfl, rfl, rfl⟩
    obtain ⟨b1, b2⟩ := loop_new a1 lp
    have sr2 := sr1.step b1 (b2.le a1)
    refine ⟨_, _, _, _, by rw [hF]; exact enterLoop_fn, ?_, ?_, Ext.trans a2 b2⟩
    · show PRel (upd _ (h.n + 1) _) (h.n + 1) (w.heap.size + 1)
      unfold PRel
      rw [upd_same]
      exact ⟨by simp [pushW], rfl⟩
    · refine ⟨sr2.hr, sr2.glob, sr2.regs, LR.cons ⟨w.heap.size, rfl, ?_⟩ sr2.dfs, sr2.rc, sr2.ko, sr2.fn, sr2.rd, sr2.rn, sr2.fs⟩
      show PRel (upd (upd mu h.n (.blk w.heap.size 0 0)) (h.n + 1) _) h.n w.heap.size
      unfold PRel
      rw [upd_other _ _ (by omega), upd_same]
      omega
  | some r =>
    rw [hr] at hpre
    simp only [] at hpre
    split at hpre
    next x hx =>
      cases hpre
      cases hf : F.round with
      | none => have := s.rd; rw [hr, hf] at this; exact this.elim
      | some c =>
        have hp : PRel mu r c := by have := s.rd; rw [hr, hf] at this; exact this
        obtain ⟨top, x', g1, g2, g3⟩ := loop_at s.hr hp hx
        have lp : LpRel mu { fn := cx.fn, regs := l.regs, nr := cx.nr, params, assign, body, st := 0, pending := none, defers := x.defers }
            { state := .ready, pending := none, fn := F.fn, tmps, params, assign, body, defers := x'.defers } := ⟨s.fn, s.regs, rfl, rfl, rfl, rfl, rfl⟩
        obtain ⟨b1, b2⟩ := loop_new s.hr lp
        have sr2 := s.step b1 (b2.le s.hr)
        refine ⟨_, _, _, [], enterLoop_round g2, ?_, sr2, b2⟩
        unfold PRel
        rw [upd_same]
        omega
    grind

include ok hc in
theorem rangeStep_sim {cx : Cx} {f : Operand} {params : Array Tmp} {assign body : Code} {l l' : Loc} {h h' : Hp} {x : Ex} (hl : rangeStep R cx (l.ev f) params assign body l h = some (x, l', h'))
    {mu : Mu} {w : World} {F : FC} {cs0 : List Frame} {tmps : Array Value} {dfs : List Deferred} {rcC : Option (Value × Bool)} {k : List Item} (s : SR P cx l h mu w F cs0 tmps dfs rcC) :
    Sim P cx h mu w F cs0 tmps dfs rcC (.code (.rangeFunc f params assign body) :: k) k x l' h' := by
  unfold rangeStep at hl
  have hf := ev_rel s.regs f s.glob
  split at hl
  next fv g a b hfv =>
    rw [hfv] at hf
    cases hev : evalC tmps f <;> rw [hev] at hf <;> cases hf
    rename_i a' b' f1 f2 f3 f4
    split at hl
    next => cases hl
    next h1 d dfsA hpre =>
      obtain ⟨mu2, w2, c, mark, h0, hp, sr2, e2⟩ := range_start (params := params) (assign := assign) (body := body) hpre s
      cases hcall : R.call g (a.toList ++ [.func (.yield h1.n) #[] #[]] ++ b.toList) none (h1.new (.loop { fn := cx.fn, regs := l.regs, nr := cx.nr, params, assign, body, st := 0, pending := none, defers := d })) with
      | none => grind
      | some q =>
        obtain ⟨out, rc', h2⟩ := q
        rw [hcall] at hl
        obtain ⟨⟨fn, hfn, hbody⟩, hs⟩ := hc _ _ _ _ _ _ _ hcall
        have st1 := st_range (P := P) (F := F) (dfs := dfs) (k := k) (cs := callersOf rcC cs0) hev (fun args w => ok.call g fn args w hfn hbody) h0
        have hargs : VL mu2 (a.toList ++ [.func (.yield h1.n) #[] #[]] ++ b.toList) (a' ++ #[Value.func (.yield c) #[] #[]] ++ b').toList := by
          simp only [Array.toList_append]
          have le := e2.le s.hr
          exact LR.append (LR.append (VL.mono le ⟨f1, f2⟩) (LR.cons (.yield hp) LR.nil)) (VL.mono le ⟨f3, f4⟩)
        obtain ⟨mu3, w3, rcC', fr, k1, k2, k3, k4, k5, k6, _⟩ := hs mu2 w2 (a' ++ #[.func (.yield c) #[] #[]] ++ b') none (F.mk' tmps (mark ++ dfs) (.inRangeFunc c :: k) :: callersOf rcC cs0) .normal sr2.hr sr2.glob hargs trivial (.inl rfl)
        have := k4.normal
        subst this
        have le3 := k2.le sr2.hr
        have sr3 := sr2.step k1 le3
        cases out with
        | pan v =>
          cases hl
          obtain ⟨v', l1, l2⟩ := k6
          exact ⟨mu3, w3, tmps, mark ++ dfs, rcC, sr3, Ext.trans e2 k2, v', .inRangeFunc c :: k, l2, Steps.trans (.one st1) (Steps.trans k5 (.one (st_leave_panic l1 (c := F.mk' tmps (mark ++ dfs) (.inRangeFunc c :: k)) (cs := callersOf rcC cs0))))⟩
        | ret v =>
          obtain ⟨v', l1, l2⟩ := k6
          simp only [] at hl
          split at hl
          next x1 hx1 =>
            have hp3 : PRel mu3 h1.n c := hp.mono le3
            obtain ⟨top3, x1', g1, g2, g3⟩ := loop_at k1 hp3 hx1
            have sfin : Steps P (lone (F.mk' tmps dfs (.code (.rangeFunc f params assign body) :: k)) (callersOf rcC cs0) w) (lone (F.mk' tmps (mark ++ dfs) (.endRangeFunc c :: k)) (callersOf rcC cs0) w3) :=
              Steps.trans (.one st1) (Steps.trans k5 (.one (st_leave l1 (c := F.mk' tmps (mark ++ dfs) (.inRangeFunc c :: k)) (cs := callersOf rcC cs0))))
            split at hl
            next => cases hl
            next hst =>
              have hnb : x1'.state ≠ .busy := by
                intro e
                have := g3.st
                rw [e] at this
                exact hst this.symm
              have st2 := st_endRange (P := P) (F := F) (tmps := tmps) (dfs := mark ++ dfs) (k := k) (cs := callersOf rcC cs0) g2 hnb
              obtain ⟨a1, a2⟩ := hrel_kill k1 g1 (by grind) (wset_setW (o := .loop { x1' with state := .exhausted }) g2)
              have sr4 := sr3.step a1 (a2.le k1)
              have e4 := Ext.trans e2 (Ext.trans k2 a2)
              have st3 : ∀ td, (x1'.pending.map Item.code).toList ++ k = td → step P (lone (F.mk' tmps (mark ++ dfs) (.endRangeFunc c :: k)) (callersOf rcC cs0) w3) =
                  .next (lone (F.mk' tmps (mark ++ dfs) td) (callersOf rcC cs0) (setW w3 c (.loop { x1' with state := .exhausted }))) := by
                grind
              split at hl
              next hpn =>
                cases hl
                exact ⟨_, _, tmps, mark ++ dfs, rcC, sr4, e4, Steps.trans sfin (.one (st3 _ (by rw [g3.pending, hpn]; rfl)))⟩
              next id hpn =>
                cases hl
                exact ⟨_, _, tmps, mark ++ dfs, rcC, sr4, e4, k, rfl, Steps.trans sfin (.one (st3 _ (by rw [g3.pending, hpn]; rfl)))⟩
              next hpn =>
                cases hl
                exact ⟨_, _, tmps, mark ++ dfs, rcC, sr4, e4, k, Steps.trans sfin (.one (st3 _ (by rw [g3.pending, hpn]; rfl)))⟩
              next => cases hl
          next => cases hl
  next => cases hl

/-- Does code begin a loop? -/
def isStart (c : Code) (k todo : List Item) : Prop := todo = .code c :: k ∨ ∃ b, c = .loop b ∧ todo = .inLoop b :: k

include ok hc hcode in
theorem codeStep_sim (hdraw : DrawOk E P R) (hsplit : SplitSim E P R) : CodeOk P (codeStep E R) := by
  intro cx c
  induction c with
  | skip =>
    intro l h x l' h' hl mu w F cs0 tmps dfs rcC k todo s ht
    rcases ht with rfl | ⟨b, hb, _⟩
    · cases hl; exact ⟨mu, w, tmps, dfs, rcC, s, Ext.refl mu _ w s.hr, .one st_skip⟩
    · cases hb
  | label n =>
    intro l h x l' h' hl mu w F cs0 tmps dfs rcC k todo s ht
    rcases ht with rfl | ⟨b, hb, _⟩
    · cases hl; exact ⟨mu, w, tmps, dfs, rcC, s, Ext.refl mu _ w s.hr, .one st_label⟩
    · cases hb
  | region id ops draw =>
    intro l h x l' h' hl mu w F cs0 tmps dfs rcC k todo s ht
    rcases ht with rfl | ⟨b, hb, _⟩
    · simp only [codeStep] at hl
      cases draw with
      | false =>
        simp only [cond_false] at hl
        have r := evOps_sim ok hc hcode (ops := ops) (k := k) ops.toList 0 _ _ _ _ _ _ _ _ _ _ rfl s hl
        rw [Array.length_toList, ← List.range_eq_range'] at r
        exact r.pre (.one st_region) (Ext.refl mu h w s.hr)
      | true =>
        simp only [cond_true] at hl
        cases hcut : E.cut cx.fn with
        | true =>
          rw [hcut] at hl
          exact hsplit cx id ops l h _ _ _ hl mu w F cs0 tmps dfs rcC k s
        | false =>
          rw [hcut] at hl
          simp only [cond_false] at hl
          cases hp : plan E (hoist ops.toList) with
          | none => grind
          | some q =>
            obtain ⟨q, ps⟩ := q
            rw [hp] at hl
            simp only [] at hl
            cases he : evOpsD E R (hoist ops.toList) q (hoist ops.toList) 0 l h [] with
            | none => grind
            | some q3 =>
              obtain ⟨l1, h1, tr⟩ := q3
              rw [he] at hl
              simp only [] at hl
              cases hpo : pairsOk tr ps with
              | false => grind
              | true =>
                rw [hpo] at hl
                cases hl
                exact hdraw cx id ops l h _ _ q ps tr hp he hpo mu w F cs0 tmps dfs rcC k s
    · cases hb
  | seq a b iha ihb =>
    intro l h x l' h' hl mu w F cs0 tmps dfs rcC k todo s ht
    rcases ht with rfl | ⟨b, hb, _⟩
    · simp only [codeStep] at hl
      cases ha : codeStep E R cx a l h with
      | none => grind
      | some q =>
        obtain ⟨x1, l1, h1⟩ := q
        rw [ha] at hl
        obtain ⟨mu1, w1, tmps1, dfs1, rc1, s1, e1, r1⟩ := iha _ _ _ _ _ ha mu w F cs0 tmps dfs rcC (.code b :: k) _ s (.inl rfl)
        have r1' := Reach.pre (.one st_seq) r1
        cases x1 with
        | normal =>
          exact Sim.pre r1' e1 (ihb _ _ _ _ _ hl mu1 w1 F cs0 tmps1 dfs1 rc1 k _ s1 (.inl rfl))
        | exit id => cases hl; exact ⟨mu1, w1, tmps1, dfs1, rc1, s1, e1, r1'.out (fun id _ => rfl) (by simp)⟩
        | ret => cases hl; exact ⟨mu1, w1, tmps1, dfs1, rc1, s1, e1, r1'.out (fun id _ => rfl) (by simp)⟩
        | pan v => cases hl; exact ⟨mu1, w1, tmps1, dfs1, rc1, s1, e1, r1'.out (fun id _ => rfl) (by simp)⟩
    · cases hb
  | cond c a b iha ihb =>
    intro l h x l' h' hl mu w F cs0 tmps dfs rcC k todo s ht
    rcases ht with rfl | ⟨b, hb, _⟩
    · simp only [codeStep] at hl
      have hv := ev_rel s.regs c s.glob
      split at hl
      next t hc' =>
        rw [hc'] at hv
        cases hev : evalC tmps c <;> rw [hev] at hv <;> cases hv
        have hst := st_cond (P := P) (F := F) (dfs := dfs) (k := k) (cs := callersOf rcC cs0) (w := w) (a := a) (b := b) hev
        cases t with
        | true => exact Sim.pre (.one hst) (Ext.refl mu h w s.hr) (iha _ _ _ _ _ hl mu w F cs0 tmps dfs rcC k _ s (.inl rfl))
        | false => exact Sim.pre (.one hst) (Ext.refl mu h w s.hr) (ihb _ _ _ _ _ hl mu w F cs0 tmps dfs rcC k _ s (.inl rfl))
      next => cases hl
    · cases hb
  | block id b ih =>
    intro l h x l' h' hl mu w F cs0 tmps dfs rcC k todo s ht
    rcases ht with rfl | ⟨b, hb, _⟩
    · simp only [codeStep] at hl
      cases ha : codeStep E R cx b l h with
      | none => grind
      | some q =>
        obtain ⟨x1, l1, h1⟩ := q
        rw [ha] at hl
        obtain ⟨mu1, w1, tmps1, dfs1, rc1, s1, e1, r1⟩ := ih _ _ _ _ _ ha mu w F cs0 tmps dfs rcC (.inBlock id :: k) _ s (.inl rfl)
        have r1' := Reach.pre (.one st_block) r1
        cases x1 with
        | normal => cases hl; exact ⟨mu1, w1, tmps1, dfs1, rc1, s1, e1, Steps.trans r1' (.one st_inBlock)⟩
        | exit i =>
          simp only [] at hl
          obtain ⟨k0, hk0, r2⟩ := r1'
          cases hi : Nat.beq i id with
          | true =>
            have : i = id := Nat.eq_of_beq_eq_true hi
            subst this
            rw [hi] at hl
            cases hl
            exact ⟨mu1, w1, tmps1, dfs1, rc1, s1, e1, Steps.trans r2 (.one (st_exit (k' := k) (by rw [hk0]; simp [exitTo])))⟩
          | false =>
            have hne : id ≠ i := by grind[Nat.beq_refl]
            rw [hi] at hl
            cases hl
            exact ⟨mu1, w1, tmps1, dfs1, rc1, s1, e1, k0, by rw [hk0]; simp [exitTo, hne], r2⟩
        | ret => cases hl; exact ⟨mu1, w1, tmps1, dfs1, rc1, s1, e1, r1'⟩
        | pan v => cases hl; exact ⟨mu1, w1, tmps1, dfs1, rc1, s1, e1, r1'⟩
    · cases hb
  | loop b ih =>
    intro l h x l' h' hl mu w F cs0 tmps dfs rcC k todo s ht
    have hst : step P (lone (F.mk' tmps dfs todo) (callersOf rcC cs0) w) = .next (lone (F.mk' tmps dfs (.code b :: .inLoop b :: k)) (callersOf rcC cs0) w) := by
      rcases ht with rfl | ⟨b2, hb, rfl⟩
      · exact st_loop
      · cases hb; exact st_inLoop
    simp only [codeStep] at hl
    cases ha : codeStep E R cx b l h with
    | none => grind
    | some q =>
      obtain ⟨x1, l1, h1⟩ := q
      rw [ha] at hl
      obtain ⟨mu1, w1, tmps1, dfs1, rc1, s1, e1, r1⟩ := ih _ _ _ _ _ ha mu w F cs0 tmps dfs rcC (.inLoop b :: k) _ s (.inl rfl)
      have r1' := Reach.pre (.one hst) r1
      cases x1 with
      | normal => exact Sim.pre r1' e1 (hcode _ _ _ _ _ _ _ hl mu1 w1 F cs0 tmps1 dfs1 rc1 k _ s1 (.inr ⟨b, rfl, rfl⟩))
      | exit id => cases hl; exact ⟨mu1, w1, tmps1, dfs1, rc1, s1, e1, r1'.out (fun id _ => rfl) (by simp)⟩
      | ret => cases hl; exact ⟨mu1, w1, tmps1, dfs1, rc1, s1, e1, r1'.out (fun id _ => rfl) (by simp)⟩
      | pan v => cases hl; exact ⟨mu1, w1, tmps1, dfs1, rc1, s1, e1, r1'.out (fun id _ => rfl) (by simp)⟩
  | rangeFunc f params assign body iha ihb =>
    intro l h x l' h' hl mu w F cs0 tmps dfs rcC k todo s ht
    rcases ht with rfl | ⟨b, hb, _⟩
    · exact rangeStep_sim ok hc hl s
    · cases hb
  | exit id =>
    intro l h x l' h' hl mu w F cs0 tmps dfs rcC k todo s ht
    rcases ht with rfl | ⟨b, hb, _⟩
    · cases hl; exact ⟨mu, w, tmps, dfs, rcC, s, Ext.refl mu _ w s.hr, k, rfl, Steps.refl _ _⟩
    · cases hb
  | scope b ih =>
    intro l h x l' h' hl mu w F cs0 tmps dfs rcC k todo s ht
    rcases ht with rfl | ⟨b, hb, _⟩
    · obtain ⟨mu1, w1, tmps1, dfs1, rc1, s1, e1, r1⟩ := ih _ _ _ _ _ hl mu w F cs0 tmps dfs rcC (.inScope b :: k) _ s (.inl rfl)
      have r1' := Reach.pre (.one st_scope) r1
      cases x with
      | normal => exact ⟨mu1, w1, tmps1, dfs1, rc1, s1, e1, Steps.trans r1' (.one st_inScope)⟩
      | exit id => exact ⟨mu1, w1, tmps1, dfs1, rc1, s1, e1, r1'.out (fun id _ => rfl) (by simp)⟩
      | ret => exact ⟨mu1, w1, tmps1, dfs1, rc1, s1, e1, r1'.out (fun id _ => rfl) (by simp)⟩
      | pan v => exact ⟨mu1, w1, tmps1, dfs1, rc1, s1, e1, r1'.out (fun id _ => rfl) (by simp)⟩
    · cases hb
  | goto n => intro l h x l' h' hl; cases hl
  | ret =>
    intro l h x l' h' hl mu w F cs0 tmps dfs rcC k todo s ht
    rcases ht with rfl | ⟨b, hb, _⟩
    · cases hl; exact ⟨mu, w, tmps, dfs, rcC, s, Ext.refl mu _ w s.hr, k, Steps.refl _ _⟩
    · cases hb
  | refuse m => intro l h x l' h' hl; cases hl
end
end Go.Ab

/- The model follows the abstract machine: deferred calls, calls. -/
namespace Go.Ab

theorem Stayed.hrel {w w' : World} (k : Stayed w w') {mu : Mu} {h : Hp} (hh : HRel mu h w) : HRel mu h w' :=
  ⟨hh.sized, fun b c base top hm => by
    obtain ⟨x, o, h1, h2, h3⟩ := hh.blk b c base top hm
    refine ⟨x, o, h1, ?_, h3⟩
    rw [k.heap c (by
      grind)]
    exact h2, hh.dead, hh.inj, hh.lt⟩
theorem Stayed.ext {w w' : World} (k : Stayed w w') {mu : Mu} {h : Hp} (hh : HRel mu h w) : Ext mu h w mu h w' where
  n := Nat.le_refl _
  old := fun _ _ => .inl rfl
  fresh := fun b c base top hb hm => absurd (hh.lt b (by rw [hm]; simp)) (by omega)
  lo := Nat.le_refl _
  same := fun _ _ _ => rfl
  frame := fun c hc _ => k.heap c hc
  ro := fun b c base top t sz el hm hg => by
    obtain ⟨x, o, h1, h2, h3⟩ := hh.blk b c base top hm
    refine ⟨k.heap c ?_, rfl, rfl⟩
    grind
  wsize := k.size
  os := k.os
  tape := k.tape
  output := k.output
  cover := fun _ h1 h2 => absurd h2 (by omega)

def ModeRel (mu : Mu) : Option Value → FrameMode → Prop
  | none, M => M = .returning
  | some v, M => ∃ v', M = .panicking [{ v := v', recovered := false }] ∧ VRel mu v v'
theorem ModeRel.mono {mu mu' : Mu} (h : Le mu mu') {m : Option Value} {M : FrameMode} (k : ModeRel mu m M) : ModeRel mu' m M := by
  cases m with
  | none => exact k
  | some v => obtain ⟨v', a, b⟩ := k; exact ⟨v', a, b.mono h⟩
def FC.un (F : FC) (tmps : Array Value) (dfs : List Deferred) (todo : List Item) (M : FrameMode) : Frame := { F.mk' tmps dfs todo with mode := M }

section
variable {P : Program} {F : FC} {tmps : Array Value} {dfs : List Deferred} {todo : List Item} {cs : List Frame} {w : World}
theorem st_collected {M : FrameMode} (hM : M ≠ .run) {c : Nat} {args : Array Value} {ds2 : List Deferred} (hw : w.heap[c]? = some (.deferred (some ds2))) :
    step P (lone (F.un tmps ({ target := .collected c, args } :: dfs) todo M) cs w) = .next (lone (F.un tmps (ds2 ++ dfs) todo M) cs (setW w c (.deferred none))) := by
  refine step_lone_go ?_
  have h1 := takeDeferred_run (P := P) hw
  cases M with
  | run => grind
  | returning => simp [stepG, unwind, FC.un, FC.mk', h1]
  | panicking ch => simp [stepG, unwind, FC.un, FC.mk', h1]
theorem st_callDeferred {M : FrameMode} (hM : M ≠ .run) {f : FuncId} {cap args : Array Value} (hf : ∀ a w, (callFunc f a).run P w = .ok (.enter f a) w) :
    step P (lone (F.un tmps ({ target := .fn (.func f) cap, args } :: dfs) todo M) cs w) = .next (lone (Frame.enter P f (args ++ cap) .deferred) (F.un tmps dfs todo M :: cs) w) := by
  refine step_lone_go ?_
  cases M with
  | run => grind
  | returning => simp [stepG, unwind, callDeferred, FC.un, FC.mk', invoke, hf]
  | panicking ch => simp [stepG, unwind, callDeferred, FC.un, FC.mk', invoke, hf]
theorem st_leave_deferred {fr c : Frame} {v : Value} (h : LeaveR P fr w .deferred v) (hm : c.mode = .returning ∨ ∃ v', c.mode = .panicking [{ v := v', recovered := false }]) :
    step P (lone fr (c :: cs) w) = .next (lone c cs w) := by
  obtain ⟨fn, hf, hr⟩ := h.res
  refine step_lone_go ?_
  rcases hm with hm | ⟨v', hm⟩ <;> simp [stepG, unwind, doReturn, h.mode, h.defers, h.kind, hf, hr, hm]
theorem st_leave_recovered {fr c : Frame} {v v' : Value} (h : LeaveR P fr w .deferred v) (hm : c.mode = .panicking [{ v := v', recovered := true }]) :
    step P (lone fr (c :: cs) w) = .next (lone { c with mode := .returning } cs w) := by
  obtain ⟨fn, hf, hr⟩ := h.res
  exact step_lone_go (by simp [stepG, unwind, doReturn, h.mode, h.defers, h.kind, hf, hr, hm])
end

section
variable {E : Env} {P : Program} (ok : EOk E P) {R : Rec} (hc : CallOk E P R.call) (hcode : CodeOk P R.code)

include ok hc in
theorem unwind_sim {F : FC} {tmps : Array Value} {todo : List Item} {cs : List Frame} : ∀ (ds : List Deferred) (m m' : Option Value) (h h' : Hp), unwindA R ds m h = some (m', h') →
    ∀ (mu : Mu) (w : World) (dfs : List Deferred) (M : FrameMode), HRel mu h w → Glob mu → DL mu ds dfs → ModeRel mu m M →
      ∃ mu' w' M', HRel mu' h' w' ∧ Ext mu h w mu' h' w' ∧ ModeRel mu' m' M' ∧ Steps P (lone (F.un tmps dfs todo M) cs w) (lone (F.un tmps [] todo M') cs w')
  | [], m, m', h, h', hl, mu, w, dfs, M, hh, hg, hd, hm => by
    cases hl
    rw [hd.nil_left]
    exact ⟨mu, w, M, hh, Ext.refl mu h w hh, hm, Steps.refl _ _⟩
  | d :: ds, m, m', h, h', hl, mu, w, dfs, M, hh, hg, hd, hm => by
    obtain ⟨d', dfs', rfl, h1, h2⟩ := hd.cons_left
    have hM : M ≠ .run := by
      intro e; subst e
      cases m with
      | none => cases hm
      | some v => obtain ⟨_, a, _⟩ := hm; cases a
    obtain ⟨tg', args'⟩ := d'
    unfold unwindA at hl
    split at hl
    next b hb =>
      split at hl
      next hget =>
        unfold DRel at h1
        rw [hb] at h1
        obtain ⟨c, hc1, hp⟩ := h1
        simp only [] at hc1
        subst hc1
        obtain ⟨top, g1, g2⟩ := dead_at hh hp hget
        obtain ⟨a1, a2⟩ := hrel_kill hh g1 (by grind) (wset_setW (o := .deferred none) g2)
        have le := a2.le hh
        obtain ⟨mu', w', M', k1, k2, k3, k4⟩ := unwind_sim ds m m' _ h' hl _ _ dfs' M a1 (hg.mono le) (LR.mono h2 fun _ _ => DRel.mono le) (hm.mono le)
        exact ⟨mu', w', M', k1, Ext.trans a2 k2, k3, .head (st_collected hM g2) k4⟩
      next => cases hl
    next f cap hb =>
      unfold DRel at h1
      rw [hb] at h1
      obtain ⟨cap', hc1, hcap, hargs⟩ := h1
      simp only [] at hc1 hargs
      subst hc1
      have va : VL mu (d.args.toList ++ cap.toList) (args' ++ cap').toList := by
        rw [Array.toList_append]; exact LR.append hargs hcap
      cases m with
      | none =>
        have hMr : M = .returning := hm
        subst hMr
        simp only [] at hl
        cases hcall : R.call f (d.args.toList ++ cap.toList) none h with
        | none => grind
        | some q =>
          obtain ⟨out, rc, h2'⟩ := q
          rw [hcall] at hl
          obtain ⟨⟨fn, hfn, hbody⟩, hs⟩ := hc _ _ _ _ _ _ _ hcall
          have st1 := st_callDeferred (P := P) (F := F) (tmps := tmps) (dfs := dfs') (todo := todo) (cs := cs) (w := w) hM (cap := cap') (args := args') (fun a w => ok.call f fn a w hfn hbody)
          obtain ⟨mu1, w1, rcC1, fr, k1, k2, k3, k4, k5, k6, _⟩ := hs mu w (args' ++ cap') none (F.un tmps dfs' todo .returning :: cs) .deferred hh hg va trivial (.inr ⟨rfl, _, _, rfl, rfl⟩)
          cases out with
          | pan v => cases hl
          | ret v =>
            obtain ⟨v', l1, l2⟩ := k6
            simp only [] at hl
            cases rc with
            | some y => cases hl
            | none =>
              cases rcC1 with
              | some y => exact k3.elim
              | none =>
                simp only [] at hl
                have le := k2.le hh
                obtain ⟨mu', w', M', g1, g2, g3, g4⟩ := unwind_sim ds none m' _ h' hl mu1 w1 dfs' .returning k1 (hg.mono le) (LR.mono h2 fun _ _ => DRel.mono le) rfl
                exact ⟨mu', w', M', g1, Ext.trans k2 g2, g3, Steps.trans (.one st1) (Steps.trans k5 (.head (st_leave_deferred l1 (.inl rfl)) g4))⟩
      | some pv =>
        obtain ⟨pv', rfl, hpv⟩ := hm
        simp only [] at hl
        cases hcall : R.call f (d.args.toList ++ cap.toList) (some (pv, false)) h with
        | none => grind
        | some q =>
          obtain ⟨out, rc, h2'⟩ := q
          rw [hcall] at hl
          obtain ⟨⟨fn, hfn, hbody⟩, hs⟩ := hc _ _ _ _ _ _ _ hcall
          have st1 := st_callDeferred (P := P) (F := F) (tmps := tmps) (dfs := dfs') (todo := todo) (cs := cs) (w := w) hM (cap := cap') (args := args') (fun a w => ok.call f fn a w hfn hbody)
          obtain ⟨mu1, w1, rcC1, fr, k1, k2, k3, k4, k5, k6, _⟩ := hs mu w (args' ++ cap') (some (pv', false)) (F.un tmps dfs' todo (.panicking [{ v := pv', recovered := false }]) :: cs) .deferred hh hg va ⟨rfl, hpv⟩ ⟨rfl, by simp⟩
          cases out with
          | pan v => cases hl
          | ret v =>
            obtain ⟨v', l1, l2⟩ := k6
            simp only [] at hl
            have le := k2.le hh
            cases rc with
            | none => cases hl
            | some y =>
              obtain ⟨v0, b⟩ := y
              cases rcC1 with
              | none => exact k3.elim
              | some z =>
                obtain ⟨v0', b'⟩ := z
                obtain ⟨rfl, hv0⟩ := k3
                cases b with
                | true =>
                  simp only [] at hl
                  obtain ⟨mu', w', M', g1, g2, g3, g4⟩ := unwind_sim ds none m' _ h' hl mu1 w1 dfs' .returning k1 (hg.mono le) (LR.mono h2 fun _ _ => DRel.mono le) rfl
                  refine ⟨mu', w', M', g1, Ext.trans k2 g2, g3, Steps.trans (.one st1) (Steps.trans k5 (.head (st_leave_recovered l1 rfl) g4))⟩
                | false =>
                  simp only [] at hl
                  obtain ⟨mu', w', M', g1, g2, g3, g4⟩ := unwind_sim ds (some v0) m' _ h' hl mu1 w1 dfs' (.panicking [{ v := v0', recovered := false }]) k1 (hg.mono le) (LR.mono h2 fun _ _ => DRel.mono le) ⟨v0', rfl, hv0⟩
                  refine ⟨mu', w', M', g1, Ext.trans k2 g2, g3, Steps.trans (.one st1) (Steps.trans k5 (.head (st_leave_deferred l1 (.inr ⟨v0', rfl⟩)) g4))⟩
    next => cases hl

include ok in
theorem readRes_run {mu : Mu} {h : Hp} {w : World} (hh : HRel mu h w) {t : Tr Value} {n : Nat} {tmps : Array Value} (hr : RRel mu t n tmps) : ∀ (rs : List ResultVar) (vs : List Value), readRes E t h rs = some vs →
    ∃ vs', (rs.mapM (fun
      | .tmp t => pure (tmps.getD t undef)
      | .cell a t => do loadVar t (← asAddr (tmps.getD a undef)) : ResultVar → Sem Value)).run P w = .ok vs' w ∧ VL mu vs vs' := by
  have hreg : ∀ a, VRel mu (match t.get a with | some v => v | none => .tuple #[]) (tmps.getD a undef) := by
    intro a
    cases hv : t.get a with
    | none =>
      have : n ≤ a := by
        rcases Nat.lt_or_ge a n with h1 | h1
        · obtain ⟨v, h2⟩ := Tr.get_some hr.sized h1; grind
        · exact h1
      rw [Array.getD_eq_getD_getElem?, Array.getElem?_eq_none (by rw [hr.size]; exact this)]
      exact .tuple rfl (by grind)
    | some v =>
      obtain ⟨v', h1, h2⟩ := hr.get a v hv
      simp_all
  intro rs
  induction rs with
  | nil => intro vs hl; cases hl; exact ⟨[], by simp, LR.nil⟩
  | cons r rs ih =>
    intro vs hl
    cases r with
    | tmp a =>
      simp only [readRes] at hl
      cases hq : readRes E t h rs with
      | none => grind
      | some l =>
        rw [hq] at hl
        cases hl
        obtain ⟨vs', g1, g2⟩ := ih l hq
        grind[undef,LR.cons,Sem.run_bind,Sem.run_pure,Result.andThen_ok]
    | cell a ty =>
      simp only [readRes] at hl
      split at hl
      next => cases hl
      next v hv =>
        cases hq : readRes E t h rs with
        | none => grind
        | some l =>
          rw [hq] at hl
          cases hl
          obtain ⟨vs', g1, g2⟩ := ih l hq
          obtain ⟨v', k1, k2⟩ := loadV_run (P := P) ok hh hv (hreg a)
          refine ⟨v' :: vs', ?_, LR.cons k2 g2⟩
          have ha : ∃ ad, tmps.getD a undef = .pointer (some ad) := by
            have key : ∀ x y, loadV E h ty x = some v → VRel mu x y → ∃ ad, y = .pointer (some ad) := by
              intro x y hv hx
              unfold loadV at hv
              cases hx <;> (try simp only [] at hv) <;> first | (cases hv; done) | grind
            grind
          grind[asAddr,undef,run,Instr.loadAt,Instr.sureAddr,Sem.run_bind,Sem.run_pure,Result.andThen_ok]

include ok in
theorem results_rel {mu : Mu} {h : Hp} {w : World} (hh : HRel mu h w) {t : Tr Value} {n : Nat} {tmps : Array Value} (hr : RRel mu t n tmps) {fn : Func} {vs : List Value} (hl : readRes E t h fn.results.toList = some vs) :
    ∃ v', (results fn tmps).run P w = .ok v' w ∧ VRel mu (tupleOf vs) v' := by
  obtain ⟨vs', g1, g2⟩ := readRes_run (P := P) ok hh hr _ _ hl
  have h1 : (results fn tmps).run P w = .ok (if h : vs'.toArray.size = 1 then vs'.toArray[0] else .tuple vs'.toArray) w := by
    unfold results
    rw [Array.mapM_eq_mapM_toList]
    simp only [map_eq_pure_bind, Sem.run_bind]
    refine (congrArg (fun q : Result (List Value) => (q.andThen fun a w' => (pure a.toArray : Sem (Array Value)).run P w').andThen
      fun a w' => (pure (if h : a.size = 1 then a[0] else .tuple a) : Sem Value).run P w') g1).trans ?_
    simp
  refine ⟨_, h1, ?_⟩
  cases vs with
  | nil =>
    rw [g2.nil_left]
    exact .tuple rfl (by grind)
  | cons v r =>
    obtain ⟨v', r', rfl, k1, k2⟩ := g2.cons_left
    cases r with
    | nil =>
      rw [k2.nil_left]
      simpa [tupleOf] using k1
    | cons v2 r2 =>
      obtain ⟨v2', r2', rfl, k3, k4⟩ := k2.cons_left
      simp only [tupleOf, List.size_toArray, List.length_cons]
      rw [dif_neg (by omega)]
      exact .tuple (by simpa using k4.1) (fun i u u' hu hu' => g2.2 i u u' (by simpa using hu) (by simpa using hu'))

include ok hc hcode in
theorem callBody_sim : CallOk E P (callBody E R) := by
  intro g args rc h o rc' h' hl
  unfold callBody at hl
  cases hfn : E.fn g with
  | none => grind
  | some fn =>
    rw [hfn] at hl
    simp only [] at hl
    cases hb : fn.body with
    | none => grind
    | some body =>
      rw [hb] at hl
      simp only [] at hl
      refine ⟨⟨fn, rfl, by rw [hb]; rfl⟩, ?_⟩
      intro mu w args' rcC cs0 kind hh hg ha hrc hko
      have hP := ok.fn g fn hfn
      cases hle : Nat.ble args.length fn.ntmps with
      | false => grind
      | true =>
        rw [hle] at hl
        simp only [cond_true] at hl
        have hle' : args.length ≤ fn.ntmps := Nat.le_of_ble_eq_true hle
        have hkind : kind = .normal ∨ kind = .deferred := by
          cases rcC with
          | none => rcases hko with a | a; exact .inl a; exact .inr a.1
          | some y => exact .inr hko.1
        let F : FC := ⟨g, kind, none⟩
        have hent : Frame.enter P g args' kind = F.mk' (args' ++ Array.replicate (fn.ntmps - args'.size) undef) [] [.code body] := by
          simp [Frame.enter, hP, hb, FC.mk', F]
        have hsz : args.length = args'.size := by rw [ha.1]; simp
        have hregs : RRel mu ((Tr.blank (.tuple #[]) fn.ntmps fn.ntmps).setAll 0 args) fn.ntmps (args' ++ Array.replicate (fn.ntmps - args'.size) undef) := by
          refine ⟨by grind, Tr.sized_setAll 0 args (Tr.sized_blank _ _ _ (Nat.le_refl _)), fun i v hv => ?_⟩
          rw [Tr.get_setAll _ 0 args fn.ntmps (Tr.sized_blank _ _ _ (Nat.le_refl _)) (by omega)] at hv
          by_cases hi : i < args.length
          · rw [if_pos ⟨Nat.zero_le _, by omega⟩] at hv
            obtain ⟨v', g1, g2⟩ := ha.get (i := i) (by simpa using hv)
            grind
          · rw [if_neg (by omega), Tr.get_blank _ _ _ (Nat.le_refl _)] at hv
            split at hv
            · cases hv
              refine ⟨undef, ?_, .tuple rfl (by grind)⟩
              grind
            · cases hv
        have sr : SR P ⟨g, fn.ntmps, none⟩ ⟨(Tr.blank (.tuple #[]) fn.ntmps fn.ntmps).setAll 0 args, [], rc⟩ h mu w F cs0 (args' ++ Array.replicate (fn.ntmps - args'.size) undef) [] rcC :=
          ⟨hh, hg, hregs, LR.nil, hrc, hko, rfl, trivial, fun e => absurd rfl e, by grind⟩
        rw [hent]
        cases hcd : R.code ⟨g, fn.ntmps, none⟩ body ⟨(Tr.blank (.tuple #[]) fn.ntmps fn.ntmps).setAll 0 args, [], rc⟩ h with
        | none => grind
        | some q =>
          obtain ⟨x, l1, h1⟩ := q
          rw [hcd] at hl
          obtain ⟨mu1, w1, tmps1, dfs1, rcC1, s1, e1, r1⟩ := hcode _ _ _ _ _ _ _ hcd mu w F cs0 _ [] rcC [] [.code body] sr (.inl rfl)
          have fin : ∀ {tmps2 : Array Value} {todo : List Item} {mu2 : Mu} {h2 : Hp} {w2 : World} {vs : List Value}, HRel mu2 h2 w2 → RRel mu2 l1.regs fn.ntmps tmps2 → readRes E l1.regs h2 fn.results.toList = some vs →
              ∃ v', LeaveR P (F.un tmps2 [] todo .returning) w2 kind v' ∧ VRel mu2 (tupleOf vs) v' := by
            intro tmps2 todo mu2 h2 w2 vs hh2 hr2 hrs
            obtain ⟨v', g1, g2⟩ := results_rel (P := P) ok hh2 hr2 hrs
            exact ⟨v', ⟨rfl, rfl, rfl, fn, hP, g1⟩, g2⟩
          have usual : ∀ {todo : List Item}, Steps P (lone (F.mk' (args' ++ Array.replicate (fn.ntmps - args'.size) undef) [] [.code body]) (callersOf rcC cs0) w) (lone (F.mk' tmps1 dfs1 todo) (callersOf rcC1 cs0) w1) → (todo = [] ∨ ∃ k0, todo = .code .ret :: k0) →
              (match unwindA R l1.dfs none h1 with
                | some (none, h'') => match readRes E l1.regs h'' fn.results.toList with
                  | none => none
                  | some vs => some (Out.ret (tupleOf vs), l1.rc, h'')
                | _ => none) = some (o, rc', h') →
              ∃ mu' w' rcC' fr, HRel mu' h' w' ∧ Ext mu h w mu' h' w' ∧ RcRel mu' rc' rcC' ∧ KOk kind cs0 rcC' ∧
                Steps P (lone (F.mk' (args' ++ Array.replicate (fn.ntmps - args'.size) undef) [] [.code body]) (callersOf rcC cs0) w) (lone fr (callersOf rcC' cs0) w') ∧
                CallEnd P fr w' kind mu' o ∧ fr.fn = g := by
            intro todo st ht hl
            cases hu : unwindA R l1.dfs none h1 with
            | none => grind
            | some q2 =>
              obtain ⟨m2, h2⟩ := q2
              rw [hu] at hl
              cases m2 with
              | some v => cases hl
              | none =>
                simp only [] at hl
                obtain ⟨mu2, w2, M2, k1, k2, k3, k4⟩ := unwind_sim ok hc (F := F) (tmps := tmps1) (todo := todo) (cs := callersOf rcC1 cs0) _ _ _ _ _ hu mu1 w1 dfs1 .returning s1.hr s1.glob s1.dfs rfl
                have hM2 : M2 = .returning := k3
                subst hM2
                have le := k2.le s1.hr
                cases hrs : readRes E l1.regs h2 fn.results.toList with
                | none => grind
                | some vs =>
                  rw [hrs] at hl
                  cases hl
                  have s2 := s1.step k1 le
                  obtain ⟨v', f1, f2⟩ := fin (todo := todo) k1 s2.regs hrs
                  exact ⟨mu2, w2, rcC1, _, k1, Ext.trans e1 k2, s2.rc, s1.ko, Steps.trans st (.head (st_leaveFn rfl ht) k4), ⟨v', f1, f2⟩, rfl⟩
          cases x with
          | exit id => cases hl
          | normal => exact usual r1 (.inl rfl) hl
          | ret => obtain ⟨k0, r2⟩ := r1; exact usual r2 (.inr ⟨k0, rfl⟩) hl
          | pan v =>
            obtain ⟨v', todo, hv, r2⟩ := r1
            simp only [] at hl
            cases hu : unwindA R l1.dfs (some v) h1 with
            | none => grind
            | some q2 =>
              obtain ⟨m2, h2⟩ := q2
              rw [hu] at hl
              obtain ⟨mu2, w2, M2, k1, k2, k3, k4⟩ := unwind_sim ok hc (F := F) (tmps := tmps1) (todo := todo) (cs := callersOf rcC1 cs0) _ _ _ _ _ hu mu1 w1 dfs1 (.panicking [{ v := v', recovered := false }]) s1.hr s1.glob s1.dfs ⟨v', rfl, hv⟩
              have le := k2.le s1.hr
              have s2 := s1.step k1 le
              cases m2 with
              | some v2 =>
                cases hl
                obtain ⟨v2', rfl, hv2⟩ := k3
                exact ⟨mu2, w2, rcC1, _, k1, Ext.trans e1 k2, s2.rc, s1.ko, Steps.trans r2 k4, ⟨v2', ⟨rfl, rfl, rfl, fn, hP⟩, hv2⟩, rfl⟩
              | none =>
                have hM2 : M2 = .returning := k3
                subst hM2
                simp only [] at hl
                cases hrs : readRes E l1.regs h2 fn.results.toList with
                | none => grind
                | some vs =>
                  rw [hrs] at hl
                  cases hl
                  obtain ⟨v2', f1, f2⟩ := fin (todo := todo) k1 s2.regs hrs
                  exact ⟨mu2, w2, rcC1, _, k1, Ext.trans e1 k2, s2.rc, s1.ko, Steps.trans r2 k4, ⟨v2', f1, f2⟩, rfl⟩

include ok hc hcode in
theorem callStep_sim : CallOk E P (callStep E R) := by
  intro g args rc h o rc' h' hl
  unfold callStep Env.pre at hl
  cases hx : E.ext g args h with
  | some q =>
    obtain ⟨v, h2⟩ := q
    rw [hx] at hl
    cases rc with
    | some x => cases hl
    | none =>
      cases hl
      obtain ⟨hfn, hs⟩ := ok.ext g args h v h' hx
      refine ⟨hfn, ?_⟩
      intro mu w args' rcC cs0 kind hh hg hva hrc hko
      cases rcC with
      | some x => exact hrc.elim
      | none =>
        obtain ⟨mu', w', fr, v', k1, k2, k3, k4, k5, k6⟩ := hs mu w args' cs0 kind hh hg hva hko
        exact ⟨mu', w', none, fr, k1, k2, trivial, hko, k3, ⟨v', k4, k5⟩, k6⟩
  | none =>
  rw [hx] at hl
  cases ho : E.orc g args with
  | none => rw [ho] at hl; exact callBody_sim ok hc hcode g args rc h o rc' h' hl
  | some v =>
    rw [ho] at hl
    cases rc with
    | some x => cases hl
    | none =>
      cases hl
      obtain ⟨hfn, ha, hv, hs⟩ := ok.orc g args v ho
      refine ⟨hfn, ?_⟩
      intro mu w args' rcC cs0 kind hh hg hva hrc hko
      cases rcC with
      | some x => exact hrc.elim
      | none =>
        have hargs : args' = ⟨args⟩ := by
          apply Array.ext'
          refine List.ext_getElem? fun i => ?_
          obtain ⟨hlen, hget⟩ := hva
          grind[Nat.lt_or_ge,List.getElem?_eq_getElem,okConst,List.all_eq_true,List.getElem_mem,VRel.const_eq,List.getElem?_eq_none]
        subst hargs
        obtain ⟨w', fr, k1, k2, k3, k4⟩ := hs w cs0 kind hko
        exact ⟨mu, w', none, fr, k1.hrel hh, k1.ext hh, trivial, hko, k2, ⟨v, k3, VRel.const mu hv⟩, k4⟩
end
end Go.Ab

/- The model follows the abstract machine: all of it. -/
namespace Go.Ab

theorem run_ok {E : Env} {P : Program} (ok : EOk E P) (hd : ∀ R, CallOk E P R.call → CodeOk P R.code → DrawOk E P R ∧ SplitSim E P R) : ∀ n, CallOk E P (run E n).call ∧ CodeOk P (run E n).code
  | 0 => by
    constructor
    · intro g args rc h o rc' h' hl; cases hl
    · intro cx c l h x l' h' hl; cases hl
  | n + 1 => by
    obtain ⟨h1, h2⟩ := run_ok ok hd n
    exact ⟨callStep_sim ok h1 h2, codeStep_sim ok h1 h2 (hd _ h1 h2).1 (hd _ h1 h2).2⟩

/-- The heap at the outset: sixteen blocks that are not looked at. -/
noncomputable def hp0 : Hp := { n := 16, t := Tr.ofList (List.replicate 16 .dead), lo := 16 }
def mu0 : Mu := fun b => if b < 16 then .dead else .none
theorem hrel0 (w : World) : HRel mu0 hp0 w := by
  refine ⟨?_, ?_, ?_, ?_, ?_⟩
  · have := Tr.sized_ofList (List.replicate 16 Blk.dead)
    rwa [List.length_replicate] at this
  · intro b c base top h
    unfold mu0 at h; split at h <;> cases h
  · intro b h
    unfold mu0 at h
    split at h
    next hb =>
      show (Tr.ofList (List.replicate 16 Blk.dead)).get b = _
      rw [Tr.get_ofList, List.getElem?_replicate, if_pos hb]
    next => cases h
  · intro b b' c base top base' top' h
    unfold mu0 at h; split at h <;> cases h
  · intro b h
    unfold mu0 at h
    split at h
    next hb => exact hb
    next => exact absurd rfl h
theorem glob0 : Glob mu0 := by
  intro g hg
  unfold ARel mu0
  simp [hg]

/-- Of what was there nothing turns. -/
def Kept (W w' : World) : Prop := W.keptBut w' (fun _ => False) ∧ (∀ a : Addr, a.block < W.heap.size → w'.frozen? a = W.frozen? a) ∧ W.heap.size ≤ w'.heap.size
theorem kept_of_ext {w w' : World} {mu' : Mu} {h' : Hp} (e : Ext mu0 hp0 w mu' h' w') : Kept w w' := by
  have hf : ∀ c, c < w.heap.size → w'.heap[c]? = w.heap[c]? := fun c hc => e.frame c hc (by
    intro b base top h; unfold mu0 at h; split at h <;> cases h)
  refine ⟨⟨e.os, e.output, fun i hi => ?_⟩, fun a ha => ?_, e.wsize⟩
  · rw [hf i hi]
    split
    · rename_i h1 h2; rw [h1] at h2; cases h2; exact ⟨rfl, rfl, rfl, fun _ _ => rfl⟩
    · rename_i h1 h2; rw [h1] at h2; cases h2; exact .inr ⟨rfl, rfl⟩
    · rfl
  · unfold World.frozen?
    rw [hf _ ha]

theorem calls_of_run {E : Env} {P : Program} (ok : EOk E P) (hd : ∀ R, CallOk E P R.call → CodeOk P R.code → DrawOk E P R ∧ SplitSim E P R) {n : Nat} {f : FuncId} {args : List Value} (ha : args.all okConst = true) {v : Value} {rc : Option (Value × Bool)} {h' : Hp}
    (hr : (run E n).call f args none hp0 = some (.ret v, rc, h')) (w : World) : Calls P f ⟨args⟩ w fun e w' => ∃ mu' v', VRel mu' v v' ∧ e = .returned v' ∧ Kept w w' := by
  intro cs
  obtain ⟨_, h1⟩ := (run_ok ok hd n).1 _ _ _ _ _ _ _ hr
  obtain ⟨mu', w', rcC', fr, k1, k2, k3, k4, k5, k6, k7⟩ := h1 mu0 w ⟨args⟩ none cs .normal (hrel0 w) glob0 (LR.refl fun a ha' => VRel.const mu0 (by simp only [List.all_eq_true] at ha; exact ha a ha')) trivial (.inl rfl)
  have := k4.normal
  subst this
  obtain ⟨v', l1, l2⟩ := k6
  obtain ⟨fn, r1, r2⟩ := l1.res
  exact ⟨.returned v', w', fr, ⟨mu', v', l2, rfl, kept_of_ext k2⟩, k5, k7, l1.mode, l1.defers, l1.kind, fn, r1, r2⟩
end Go.Ab

/- Operations whose order is drawn: what they look at, what they touch. -/
namespace Go.Ab

theorem load_same {h h2 : Hp} {b o n : Nat} (e : h2.get b = h.get b) : h.load b o n = h2.load b o n := by unfold Hp.load; rw [e]

/-- An operation that reads one block at most. -/
theorem shape_op {E : Env} {op : Op} {ρ : Operand → Value} (hc : cls E op = 0 ∨ cls E op = 1) :
    ∃ f : Hp → Option Value, (∀ h, aop E ρ h op = wrapR h (f h)) ∧ (cls E op = 0 → ∀ h h2, f h = f h2) ∧ (∀ h h2, (∀ b, touch ρ op = some b → h2.get b = h.get b) → f h = f h2) := by
  have pure_ : (∀ h, aop E ρ h op = wrapR h (pop E ρ op)) → ∃ f : Hp → Option Value, (∀ h, aop E ρ h op = wrapR h (f h)) ∧ (cls E op = 0 → ∀ h h2, f h = f h2) ∧ (∀ h h2, (∀ b, touch ρ op = some b → h2.get b = h.get b) → f h = f h2) :=
    fun h => ⟨fun _ => pop E ρ op, h, fun _ _ _ => rfl, fun _ _ _ => rfl⟩
  cases op
  case load t a =>
    refine ⟨fun h => loadV E h t (ρ a), fun _ => rfl, fun h0 => by simp [cls] at h0, fun h h2 ht => ?_⟩
    show loadV E h t (ρ a) = loadV E h2 t (ρ a)
    unfold loadV
    unfold touch at ht
    simp only [] at ht
    split at ht
    next x hx =>
      try rw [hx]
      try simp only []
      have e : ∀ o n, h.load x.block o n = h2.load x.block o n := fun o n => load_same (ht _ rfl)
      simp only [e]
    grind
  case lookup t m k b =>
    refine ⟨fun h => lookupV E h t (ρ m) (ρ k) b, fun _ => rfl, fun h0 => by simp [cls] at h0, fun h h2 ht => ?_⟩
    show lookupV E h t (ρ m) (ρ k) b = lookupV E h2 t (ρ m) (ρ k) b
    unfold touch at ht
    unfold lookupV
    grind
  case convert src dst x =>
    have hkind : cls E (.convert src dst x) = 0 → ∀ p, convKind E src dst = some p → p.1 = 0 := by
      grind[cls,convKind]
    have hkind1 : cls E (.convert src dst x) = 1 → ∀ p, convKind E src dst = some p → p.1 = 0 ∨ p.1 = 1 := by
      intro h0 p hp
      unfold cls at h0
      unfold convKind at hp
      grind
    refine ⟨fun h => match convKind E src dst with
      | some (0, _) => convP E dst (ρ x)
      | some (1, _) => strOf h (ρ x)
      | _ => none, fun h => ?_, fun h0 h h2 => ?_, fun h h2 ht => ?_⟩
    · show wrapV (convV E h src dst (ρ x)) = wrapR h _
      unfold convV
      cases hk : convKind E src dst with
      | none => rfl
      | some p =>
        obtain ⟨n, e⟩ := p
        have h01 : n = 0 ∨ n = 1 := by
          grind
        rcases h01 with rfl | rfl
        · simp only []; cases convP E dst (ρ x) <;> rfl
        · simp only []; cases strOf h (ρ x) <;> rfl
    · grind
    · cases hk : convKind E src dst with
      | none => simp only [hk]
      | some p =>
        obtain ⟨n, e⟩ := p
        simp only [hk]
        match n with
        | 0 => rfl
        | 1 =>
          show strOf h (ρ x) = strOf h2 (ρ x)
          unfold touch at ht
          simp only [] at ht
          unfold strOf
          cases hr : ρ x <;> rw [hr] at ht <;> (try rfl)
          rename_i a l c
          cases a with
          | none => rfl
          | some a => simp only [] at ht ⊢; rw [load_same (ht _ rfl)]
        | n + 2 => rfl
  case call c =>
    cases hcc : c.callee with
    | value f => simp [cls, hcc] at hc
    | invoke r n => simp [cls, hcc] at hc
    | builtin b =>
      cases b <;> (try (simp [cls, hcc] at hc; done))
      case len =>
        refine ⟨fun h => match pop E ρ (.call c) with
          | some v => some v
          | none => match c.args.toList with
            | x :: _ => match ρ x with
              | .map (some r) => match h.get r with
                | some (.map es _) => match c.argTypes.toList with
                  | t :: _ => match E.und t with
                    | some (.map _ _) => some (.int .i64 (.ofNat es.length))
                    | _ => none
                  | _ => none
                | _ => none
              | _ => none
            | _ => none, fun h => ?_, fun h0 => by simp [cls, hcc] at h0, fun h h2 ht => ?_⟩
        · simp only [aop, hcc]
          cases pop E ρ (.call c) with
          | some v => rfl
          | none =>
            simp only []
            cases ha : c.args.toList with
            | nil => rfl
            | cons x xs =>
              simp only []
              cases hr : ρ x <;> (try rfl)
              rename_i r
              cases r with
              | none => rfl
              | some r =>
                simp only []
                cases hg : h.get r with
                | none => rfl
                | some y =>
                  cases y <;> (try rfl)
                  cases htt : c.argTypes.toList with
                  | nil => rfl
                  | cons t ts =>
                    simp only []
                    cases hu : E.und t with
                    | none => rfl
                    | some d => cases d <;> rfl
        · show _ = _
          cases pop E ρ (.call c) with
          | some v => rfl
          | none =>
            simp only []
            unfold touch at ht
            grind
      all_goals simp_all[aop]
  all_goals first
    | exact pure_ (fun _ => rfl)
    | (exfalso; simp [cls] at hc; done)

theorem get_put_ne {h : Hp} {b b' : Nat} {x : Blk} (hne : b ≠ b') : (h.put b x).get b' = h.get b' := by
  rw [Hp.get_put, if_neg (fun e => hne e.1)]
theorem get_new_lt {h : Hp} {b : Nat} {x : Blk} (hs : h.t.Sized h.n) (hb : b < h.n) : (h.new x).get b = h.get b := by
  rw [Hp.get_new h x hs, if_neg (by omega)]
theorem store_only {h h1 : Hp} {b o : Nat} {l : List Value} (hl : h.store b o l = some h1) {b' : Nat} (hne : b ≠ b') : h1.get b' = h.get b' := by
  grind[Hp.store,get_put_ne]
end Go.Ab

/- Operations whose order is drawn: what they write. -/
namespace Go.Ab

theorem mapAt_map {E : Env} {h : Hp} {t : TypeId} {m k : Value} {r : Nat} {es : List (Value × Value × Nat)} {c : Nat} {el : TypeId} (hm : mapAt E h t m k = some (r, es, c, el)) :
    m = .map (some r) ∧ h.get r = some (.map es c) ∧ ∃ kt, E.und t = some (.map kt el) ∧ keyFits E kt k = true := by
  unfold mapAt at hm
  grind

theorem w_only {E : Env} {op : Op} {ρ : Operand → Value} {h h1 : Hp} {nx : ANext} (hs : h.t.Sized h.n) (hc : cls E op = 2 ∨ cls E op = 5) (ha : aop E ρ h op = some (nx, h1)) :
    ∀ b, b < h.n → touch ρ op ≠ some b → h1.get b = h.get b := by
  intro b hb ht
  have wv : ∀ {r : Option (Hp × Value)}, wrapV r = some (nx, h1) → ∃ v, r = some (h1, v) := by
    intro r hr
    cases r with
    | none => cases hr
    | some q => obtain ⟨a, b⟩ := q; cases hr; grind
  have wu : ∀ {r : Option Hp}, wrapU r = some (nx, h1) → r = some h1 := by
    intro r hr
    cases r with
    | none => cases hr
    | some q => cases hr; rfl
  cases op
  case store t a x =>
    have hl := wu ha
    grind[storeV,touch,Nat.beq,vcells,store_only]
  case mapUpdate t m k v =>
    have hl := wu ha
    unfold mapPut at hl
    split at hl
    next => cases hl
    next r es c el hm =>
      obtain ⟨g1, _, _⟩ := mapAt_map hm
      grind[touch,get_put_ne]
  case insert t m k v =>
    have hl := wu ha
    unfold mapPut at hl
    split at hl
    next => cases hl
    next r es c el hm =>
      obtain ⟨g1, _, _⟩ := mapAt_map hm
      grind[touch,get_put_ne]
  case mapEntry t m k =>
    obtain ⟨v, hl⟩ := wv ha
    unfold mapEnt at hl
    split at hl
    next => cases hl
    next r es c el hm =>
      obtain ⟨g1, _, _⟩ := mapAt_map hm
      grind[touch,get_put_ne]
  case entryStore t m s v =>
    have hl := wu ha
    unfold entStore at hl
    split at hl
    next r hr =>
      have hne : r ≠ b := by grind[touch]
      split at hl
      next es c hg =>
        grind[get_put_ne]
      next => cases hl
    next => cases hl
  case call c =>
    cases hcc : c.callee with
    | value f => simp [cls, hcc] at hc
    | invoke r n => simp [cls, hcc] at hc
    | builtin bi =>
      cases bi <;> (try (simp [cls, hcc] at hc; done))
      case append =>
        simp only [aop, hcc] at ha
        split at ha
        next s x xs hargs =>
          obtain ⟨v, hl⟩ := wv ha
          unfold appendV at hl
          split at hl
          next t tx ts =>
            split at hl
            next =>
              unfold appendS at hl
              split at hl
              next e hu =>
                split at hl
                next => cases hl
                next i hi =>
                  split at hl
                  next a len cap hsv =>
                    have hne : ∀ ad, a = some ad → ad.block ≠ b := by
                      grind[touch]
                    split at hl
                    next => cases hl
                    next n new hsrc =>
                      unfold appendC at hl
                      cases hq : Nat.ble (len + n) cap with
                      | true =>
                        rw [hq] at hl
                        simp only [cond_true] at hl
                        split at hl
                        next => cases hl; rfl
                        next ad =>
                          split at hl
                          next => cases hl; rfl
                          next =>
                            split at hl
                            next => cases hl
                            next h2 hst => cases hl; exact store_only hst (hne _ rfl)
                      | false =>
                        rw [hq] at hl
                        simp only [cond_false] at hl
                        cases hq2 : (Nat.ble ((len + n) * (i.bytes + 1)) 70368744177664 && (Nat.blt 0 i.bytes)) with
                        | false => grind
                        | true =>
                          rw [hq2] at hl
                          simp only [cond_true] at hl
                          split at hl
                          next => cases hl
                          next zs hz =>
                            cases hq3 : Nat.beq zs.length i.size with
                            | false => grind
                            | true =>
                              rw [hq3] at hl
                              simp only [cond_true] at hl
                              unfold growV at hl
                              split at hl
                              next =>
                                grind[Nat.beq,get_new_lt]
                              next ad =>
                                split at hl
                                next tr sz el md hg =>
                                  split at hl
                                  next => cases hl
                                  next t2 s2 hgr =>
                                    split at hl
                                    next k' hk' =>
                                      cases hq4 : (Nat.beq k' i.size && !Nat.beq md 0 && new.all flatV) with
                                      | false => grind
                                      | true =>
                                        rw [hq4] at hl
                                        cases hl
                                        rw [get_new_lt (h := h.put ad.block .dead) (Tr.sized_set _ _ hs) hb]
                                        exact get_put_ne (hne _ rfl)
                                    grind[get_new_lt]
                                next => cases hl
                  next => cases hl
              next => cases hl
            next => cases hl
          next => cases hl
        next => cases ha
      case copy =>
        simp only [aop, hcc] at ha
        split at ha
        next s x xs hargs =>
          obtain ⟨v, hl⟩ := wv ha
          unfold copyV at hl
          split at hl
          next t ts =>
            split at hl
            next e hu =>
              split at hl
              next => cases hl
              next k hk =>
                split at hl
                next a len cap hsv =>
                  have hne : ∀ ad, a = some ad → ad.block ≠ b := by
                    grind[touch]
                  split at hl
                  next => cases hl; rfl
                  next =>
                    split at hl
                    next => cases hl
                    next => cases hl; rfl
                    next =>
                      split at hl
                      next => cases hl
                      next ad =>
                        split at hl
                        next => cases hl
                        next h2 hst => cases hl; exact store_only hst (hne _ rfl)
                  next s =>
                    cases hk1 : Nat.beq k 1 with
                    | false => grind
                    | true =>
                      rw [hk1] at hl
                      simp only [cond_true] at hl
                      split at hl
                      next => cases hl; rfl
                      next =>
                        split at hl
                        next => cases hl
                        next ad =>
                          split at hl
                          next => cases hl
                          next h2 hst => cases hl; exact store_only hst (hne _ rfl)
                  next => cases hl
                next => cases hl
            next => cases hl
          next => cases hl
        next => cases ha
      case delete =>
        simp only [aop, hcc] at ha
        split at ha
        next t ts m k xs htt hargs =>
          split at ha
          next => cases ha
          next h2 hl =>
            cases ha
            unfold mapDel at hl
            split at hl
            next => cases hl
            next r es c el hm =>
              obtain ⟨g1, _, _⟩ := mapAt_map hm
              grind[touch,get_put_ne]
        next => cases ha
  case convert src dst x =>
    grind[cls]
  all_goals first
    | (exfalso; simp [cls] at hc; done)
    | (exfalso; unfold cls at hc; simp only [] at hc; split at hc <;> simp at hc; done)
end Go.Ab

/- Drawn orders: look-ups beside new entries; values within bounds. -/
namespace Go.Ab

theorem keyEq_same {a b : Value} (h : keyEq a b = some true) : a = b := by
  unfold keyEq at h
  cases a <;> (try (simp at h; done)) <;> cases b <;> (try (simp at h; done))
  · grind
  · grind[keqb_eq,ibeq_eq]
  · rename_i s u
    simp only [] at h
    rw [bytesEq_eq] at h
    simp at h
    have : s = u := by cases s; cases u; simp [byteList] at h; simp [h]
    subst this; rfl
  · rename_i x y
    simp only [] at h
    have := (intsEq_ints _ _ h).2.2.2.1 rfl
    simp_all
theorem intsEq_kd {kd : IntKind} : ∀ (l m : List Value), (∀ v ∈ l, ∃ x, v = .int kd x) → (∀ v ∈ m, ∃ x, v = .int kd x) → l.length = m.length → ∃ r, intsEq l m = some r
  | [], [], _, _, _ => ⟨true, rfl⟩
  | a :: l, b :: m, h1, h2, h3 => by
    obtain ⟨x, rfl⟩ := h1 a (by simp)
    obtain ⟨y, rfl⟩ := h2 b (by simp)
    obtain ⟨r, hr⟩ := intsEq_kd l m (fun v h => h1 v (by simp [h])) (fun v h => h2 v (by simp [h])) (by simpa using h3)
    simp_all[ibeq,intsEq,keqb_eq,decide_true,cond_true]
  | [], _ :: _, _, _, h => by simp at h
  | _ :: _, [], _, _, h => by simp at h
theorem keyEq_fits {E : Env} {kt : TypeId} {a b : Value} (ha : keyFits E kt a = true) (hb : keyFits E kt b = true) : ∃ r, keyEq a b = some r := by
  unfold keyFits at ha hb
  cases hu : E.und kt with
  | none => simp [hu] at ha
  | some d =>
    cases hd : isArr d with
    | true =>
      cases d <;> simp only [isArr] at hd <;> try (cases hd; done)
      obtain ⟨cs, kd, rfl, _, _, l1, k1, v1⟩ := fits_arr (E := E) (kt := kt) (k := a) hu (by unfold keyFits; exact ha)
      obtain ⟨ds, kd', rfl, _, _, l2, k2, v2⟩ := fits_arr (E := E) (kt := kt) (k := b) hu (by unfold keyFits; exact hb)
      rw [k1] at k2
      cases k2
      exact intsEq_kd _ _ v1 v2 (by rw [l1, l2])
    | false =>
    simp only [hu] at ha hb
    cases d <;> simp only [] at ha hb <;> (try (cases ha; done)) <;> (try (cases hd; done))
    · cases a <;> simp only [] at ha <;> try (cases ha; done)
      cases b <;> simp only [] at hb <;> try (cases hb; done)
      exact ⟨_, rfl⟩
    · cases a <;> simp only [] at ha <;> try (cases ha; done)
      cases b <;> simp only [] at hb <;> try (cases hb; done)
      simp_all[keqb_eq,decide_eq_true_eq,ibeq,keyEq]
    · cases a <;> simp only [] at ha <;> try (cases ha; done)
      cases b <;> simp only [] at hb <;> try (cases hb; done)
      exact ⟨_, rfl⟩
theorem mset_self {k v : Value} {n : Nat} : ∀ {es : List (Value × Value × Nat)}, mfind k es = some (some (v, n)) → mset k v es = es
  | [], h => by cases h
  | (k', v', n') :: l, h => by
    simp only [mfind, mset] at h ⊢
    cases hk : keyEq k k' with
    | none => rw [hk] at h; cases h
    | some b =>
      rw [hk] at h
      cases b with
      | true => simp only [] at h ⊢; cases h; rw [keyEq_same hk]
      | false => simp only [] at h ⊢; rw [mset_self h]
theorem mfind_append {k k0 z : Value} {c : Nat} : ∀ (es : List (Value × Value × Nat)), mfind k (es ++ [(k0, z, c)]) = (match mfind k es with
    | none => none
    | some (some x) => some (some x)
    | some none => match keyEq k k0 with
      | none => none
      | some true => some (some (z, c))
      | some false => some none)
  | [] => by
    rfl
  | (k', v', n') :: l => by
    simp only [List.cons_append, mfind]
    cases hk : keyEq k k' with
    | none => rfl
    | some b =>
      cases b with
      | true => rfl
      | false => simp only []; exact mfind_append l

theorem look_ent {E : Env} {t : TypeId} {m k : Operand} {ρ : Operand → Value} {h h1 : Hp} {nx : ANext} (ha : aop E ρ h (.mapEntry t m k) = some (nx, h1)) (mv kv : Value) :
    lookupV E h1 t mv kv false = lookupV E h t mv kv false := by
  obtain ⟨v, hl⟩ : ∃ v, mapEnt E h t (ρ m) (ρ k) = some (h1, v) := by
    simp only [aop] at ha
    cases hq : mapEnt E h t (ρ m) (ρ k) with
    | none => rw [hq] at ha; cases ha
    | some q => rw [hq] at ha; obtain ⟨a, b⟩ := q; cases ha; grind
  unfold mapEnt at hl
  split at hl
  next => cases hl
  next r es c el hm =>
    obtain ⟨g1, g2, kt, g3, g4⟩ := mapAt_map hm
    have hsome : (h.get r).isSome = true := by rw [g2]; rfl
    unfold lookupV
    simp only [g3]
    cases hf : keyFits E kt kv with
    | false => rfl
    | true =>
      simp only [cond_true, cond_false]
      cases mv <;> (try rfl)
      rename_i r'
      cases r' with
      | none => rfl
      | some r' =>
        simp only []
        by_cases hr : r = r'
        · subst hr
          split at hl
          next => cases hl
          next v0 n0 hfd =>
            cases hl
            rw [Hp.get_put, if_pos ⟨rfl, hsome⟩, g2, mset_self hfd]
          next hfd =>
            split at hl
            next => cases hl
            next z hz =>
              cases hl
              rw [Hp.get_put, if_pos ⟨rfl, hsome⟩, g2]
              grind[mfind_append,mfind,keyEq_fits,hf]
        grind[get_put_ne]

/-- A relation that keeps to the blocks below n. -/
def cut (mu : Mu) (n : Nat) : Mu := fun b => if b < n then mu b else .none
theorem cut_lt {mu : Mu} {n b : Nat} (h : b < n) : cut mu n b = mu b := by simp [cut, h]
theorem cut_ge {mu : Mu} {n b : Nat} (h : n ≤ b) : cut mu n b = .none := by simp [cut, Nat.not_lt.2 h]
theorem cut_le (mu : Mu) (n : Nat) : Le (cut mu n) mu := by
  intro b hb
  by_cases h : b < n
  · left; rw [cut_lt h]
  · rw [cut_ge (by omega)] at hb; grind
theorem cut_mono {mu mu' : Mu} (h : Le mu mu') (n : Nat) : Le (cut mu n) (cut mu' n) := by
  intro b hb
  by_cases hn : b < n
  · rw [cut_lt hn] at hb; rw [cut_lt hn, cut_lt hn]; exact h b hb
  · rw [cut_ge (by omega)] at hb; grind
theorem ARel.in {mu : Mu} {a a' : Addr} (h : ARel mu a a') : mu a.block ≠ .none := by
  grind[ARel]
theorem SRel.in {mu : Mu} {a a' : Addr} {c c' : Nat} (h : SRel mu a c a' c') : mu a.block ≠ .none := by
  grind[SRel]
theorem PRel.in {mu : Mu} {b c : Nat} (h : PRel mu b c) : mu b ≠ .none := by
  grind[PRel]
theorem ARel.cut {mu : Mu} {n : Nat} {a a' : Addr} (h : ARel mu a a') (hn : a.block < n) : ARel (cut mu n) a a' := by
  grind[ARel,cut_lt]
theorem SRel.cut {mu : Mu} {n : Nat} {a a' : Addr} {c c' : Nat} (h : SRel mu a c a' c') (hn : a.block < n) : SRel (cut mu n) a c a' c' := by
  grind[SRel,cut_lt]
theorem PRel.cut {mu : Mu} {n : Nat} {b c : Nat} (h : PRel mu b c) (hn : b < n) : PRel (cut mu n) b c := by
  grind[PRel,cut_lt]
theorem VRel.cut {mu muT : Mu} {n : Nat} (hn : ∀ b, muT b ≠ .none → b < n) {v vT : Value} (hT : VRel muT v vT) : ∀ {v' : Value}, VRel mu v v' → VRel (cut mu n) v v' := by
  induction hT with
  | lit k => intro v' h; cases h; exact .lit k
  | poison v => intro v' _; exact .poison v'
  | bool b => intro v' h; cases h; exact .bool b
  | int k m => intro v' h; cases h; exact .int k m
  | string s => intro v' h; cases h; exact .string s
  | nilp => intro v' h; cases h; exact .nilp
  | ptr a => intro v' h; cases h; rename_i h1; exact .ptr (h1.cut (hn _ a.in))
  | nils => intro v' h; cases h; exact .nils
  | slice l a => intro v' h; cases h; rename_i h2 h1; exact .slice h1 (h2.cut (hn _ a.in))
  | nilm => intro v' h; cases h; exact .nilm
  | map a => intro v' h; cases h; rename_i h1; exact .map (h1.cut (hn _ a.in))
  | fn a1 a2 b1 b2 i1 i2 =>
    intro v' h
    cases h
    rename_i h1 h2 h3 h4
    refine .fn h1 (fun i u u' hu hu' => ?_) h3 (fun i u u' hu hu' => ?_)
    · grind
    grind
  | yield a => intro v' h; cases h; rename_i h1; exact .yield (h1.cut (hn _ a.in))
  | nilf => intro v' h; cases h; exact .nilf
  | nili => intro v' h; cases h; exact .nili
  | iface _ i => intro v' h; cases h; rename_i h1; exact .iface (i h1)
  | agg a1 a2 i1 =>
    intro v' h
    cases h
    rename_i h1 h2
    refine .agg h1 (fun i u u' hu hu' => ?_)
    grind
  | tuple a1 a2 i1 =>
    intro v' h
    cases h
    rename_i h1 h2
    refine .tuple h1 (fun i u u' hu hu' => ?_)
    grind
end Go.Ab

/- Drawn orders: what the plan says. -/
namespace Go.Ab

def Sub (q q' : Nat) : Prop := ∀ i, q.testBit i = true → q'.testBit i = true
theorem testBit_lor (a b i : Nat) : (Nat.lor a b).testBit i = (a.testBit i || b.testBit i) := Nat.testBit_or a b i
theorem testBit_pow (n i : Nat) : (Nat.pow 2 n).testBit i = decide (n = i) := Nat.testBit_two_pow
def binds (e : Edge) : Bool := Region.binds .any e

/-- What goes ahead of an operation. -/
def BefOk (ops : List Oper) (M : List Nat) (i : Nat) : Prop := ∀ o, ops[i]? = some o → ∃ m, M[i]? = some m ∧ (∀ e ∈ o.after.toList, binds e = true → e.on < i) ∧
  ∀ b, m.testBit b = true → ∃ e ∈ o.after.toList, binds e = true ∧ (b = e.on ∨ ∃ m', M[e.on]? = some m' ∧ m'.testBit b = true)

theorem bef_fold (acc : List Nat) : ∀ (es : List Edge) (s0 : Option Nat) (m : Nat), es.foldl (fun s e => match s with
      | none => none
      | some s => match e.ground with
        | .textOnly _ => some s
        | .gcOnly _ => some s
        | _ => match acc[acc.length - 1 - e.on]? with
          | none => none
          | some m => bif Nat.blt e.on acc.length then some (Nat.lor (Nat.lor s (Nat.pow 2 e.on)) m) else none) s0 = some m →
    ∃ s, s0 = some s ∧ (∀ e ∈ es, binds e = true → e.on < acc.length) ∧
      ∀ b, m.testBit b = true → s.testBit b = true ∨ ∃ e ∈ es, binds e = true ∧ (b = e.on ∨ ∃ m', acc.reverse[e.on]? = some m' ∧ m'.testBit b = true)
  | [], s0, m, h => ⟨m, h, by simp, fun b hb => .inl hb⟩
  | e :: es, s0, m, h => by
    rw [List.foldl_cons] at h
    obtain ⟨s1, h1, h2, h3⟩ := bef_fold acc es _ m h
    cases s0 with
    | none => cases h1
    | some s =>
      refine ⟨s, rfl, ?_⟩
      have skip : binds e = false → s1 = s → (∀ e' ∈ e :: es, binds e' = true → e'.on < acc.length) ∧
          ∀ b, m.testBit b = true → s.testBit b = true ∨ ∃ e' ∈ e :: es, binds e' = true ∧ (b = e'.on ∨ ∃ m', acc.reverse[e'.on]? = some m' ∧ m'.testBit b = true) := by
        grind
      have main : binds e = true → (match acc[acc.length - 1 - e.on]? with
          | none => none
          | some m => bif Nat.blt e.on acc.length then some (Nat.lor (Nat.lor s (Nat.pow 2 e.on)) m) else none) = some s1 → (∀ e' ∈ e :: es, binds e' = true → e'.on < acc.length) ∧
          ∀ b, m.testBit b = true → s.testBit b = true ∨ ∃ e' ∈ e :: es, binds e' = true ∧ (b = e'.on ∨ ∃ m', acc.reverse[e'.on]? = some m' ∧ m'.testBit b = true) := by
        intro hb hm
        split at hm
        next => cases hm
        next m0 hm0 =>
          cases hlt : Nat.blt e.on acc.length with
          | false => grind
          | true =>
            rw [hlt] at hm
            cases hm
            have hlt' : e.on < acc.length := by simp_all
            refine ⟨fun e' he' hb' => ?_, fun b hbb => ?_⟩
            · grind
            · rcases h3 b hbb with x | ⟨e', he', x⟩
              · rw [testBit_lor, testBit_lor, testBit_pow] at x
                grind
              grind
      grind[Option.some.injEq,binds,Region.binds]

theorem befs_ok : ∀ (os : List Oper) (acc ms : List Nat), befs os acc = some ms → ms.length = acc.length + os.length ∧ (∀ i, i < acc.length → ms.reverse[i]? = acc.reverse[i]?) ∧
    ∀ j o, os[j]? = some o → ∃ m, ms.reverse[acc.length + j]? = some m ∧ (∀ e ∈ o.after.toList, binds e = true → e.on < acc.length + j) ∧
      ∀ b, m.testBit b = true → ∃ e ∈ o.after.toList, binds e = true ∧ (b = e.on ∨ ∃ m', ms.reverse[e.on]? = some m' ∧ m'.testBit b = true)
  | [], acc, ms, h => by cases h; grind
  | o :: os, acc, ms, h => by
    simp only [befs] at h
    split at h
    next => cases h
    next s hs =>
      obtain ⟨s0, e0, f1, f2⟩ := bef_fold acc _ _ _ hs
      cases e0
      obtain ⟨g1, g2, g3⟩ := befs_ok os (s :: acc) ms h
      have hpre : ∀ i, i < acc.length → ms.reverse[i]? = acc.reverse[i]? := by
        grind
      refine ⟨by grind, hpre, fun j o' ho' => ?_⟩
      cases j with
      | zero =>
        grind
      | succ j =>
        obtain ⟨m, m1, m2, m3⟩ := g3 j o' (by simpa using ho')
        have e1 : (s :: acc).length + j = acc.length + (j + 1) := by simp; omega
        simp_all

/-- What is owed by two operations, neither of which goes ahead of the other: p, of number i, and o, of number n. -/
def Owe (E : Env) (ops : List Oper) (o p : Oper) (i n q : Nat) (l : List (Nat × Nat)) : Prop :=
  apartT ops o p = true ∧ (cls E o.op = 0 ∨ cls E p.op = 0 ∨ (cls E o.op = 1 ∧ cls E p.op = 1) ∨ (cls E o.op = 2 ∧ cls E p.op = 1 ∧ (lookEnt o.op p.op = true ∨ (i, n) ∈ l)) ∨
    (cls E o.op = 1 ∧ cls E p.op = 2 ∧ (lookEnt p.op o.op = true ∨ (i, n) ∈ l)) ∨ (cls E o.op = 5 ∧ cls E p.op = 1 ∧ (i, n) ∈ l) ∨ (cls E o.op = 1 ∧ cls E p.op = 5 ∧ (i, n) ∈ l) ∨
    (cls E o.op ≠ 2 ∧ cls E p.op ≠ 2 ∧ (cls E p.op = 3 ∨ cls E p.op = 5 → q.testBit i = true) ∧ (cls E o.op = 3 ∨ cls E o.op = 5 → q.testBit n = true)) ∨
    (cls E o.op = 3 ∧ cls E p.op = 1 ∧ isRun o.op = true ∧ (i, n) ∈ l) ∨ (cls E o.op = 1 ∧ cls E p.op = 3 ∧ isRun p.op = true ∧ (i, n) ∈ l) ∨ (cls E o.op = 3 ∧ cls E p.op = 4 ∧ isRun o.op = true ∧ isAlloc p.op = true ∧ (i, n) ∈ l) ∨
    (cls E o.op = 2 ∧ cls E p.op = 3 ∧ mapNew ops o n i = true ∧ q.testBit i = true))
theorem Owe.mono {E : Env} {ops : List Oper} {o p : Oper} {i n q q' : Nat} {l l' : List (Nat × Nat)} (hq : Sub q q') (hl : ∀ x ∈ l, x ∈ l') (h : Owe E ops o p i n q l) : Owe E ops o p i n q' l' := by
  obtain ⟨h0, h1⟩ := h
  refine ⟨h0, ?_⟩
  rcases h1 with h | h | h | ⟨a, b, h⟩ | ⟨a, b, h⟩ | ⟨a, b, h⟩ | ⟨a, b, h⟩ | ⟨a, b, c, d⟩ | ⟨a, b, c, h⟩ | ⟨a, b, c, h⟩ | ⟨a, b, c, d, h⟩ | ⟨a, b, c, h⟩
  · exact .inl h
  · grind
  · omega
  · grind
  · grind
  · grind
  · grind
  · exact .inr (.inr (.inr (.inr (.inr (.inr (.inr (.inl ⟨a, b, fun x => hq _ (c x), fun x => hq _ (d x)⟩)))))))
  · grind
  · grind
  · grind
  · exact .inr (.inr (.inr (.inr (.inr (.inr (.inr (.inr (.inr (.inr (.inr ⟨a, b, c, hq _ h⟩))))))))))

theorem owed_ok {E : Env} {ops : List Oper} {o : Oper} {m n : Nat} : ∀ (ps : List Oper) (i : Nat) (q : Nat) (l : List (Nat × Nat)) (q' : Nat) (l' : List (Nat × Nat)), owed E ops o m n ps i (q, l) = some (q', l') →
    Sub q q' ∧ (∀ x ∈ l, x ∈ l') ∧ ∀ j p, ps[j]? = some p → m.testBit (i + j) = false → Owe E ops o p (i + j) n q' l'
  | [], i, q, l, q', l', h => by cases h; exact ⟨fun _ x => x, fun _ x => x, fun j p hp => by simp at hp⟩
  | p :: ps, i, q, l, q', l', h => by
    have next : ∀ {q1 : Nat} {l1 : List (Nat × Nat)}, owed E ops o m n ps (i + 1) (q1, l1) = some (q', l') → Sub q q1 → (∀ x ∈ l, x ∈ l1) → (m.testBit i = false → Owe E ops o p i n q1 l1) →
        Sub q q' ∧ (∀ x ∈ l, x ∈ l') ∧ ∀ j p', (p :: ps)[j]? = some p' → m.testBit (i + j) = false → Owe E ops o p' (i + j) n q' l' := by
      intro q1 l1 h1 hq hl ho
      obtain ⟨g1, g2, g3⟩ := owed_ok ps (i + 1) q1 l1 q' l' h1
      refine ⟨fun x hx => g1 x (hq x hx), fun x hx => g2 x (hl x hx), fun j p' hp' hm => ?_⟩
      cases j with
      | zero =>
        simp at hp'
        subst hp'
        exact (ho hm).mono g1 g2
      | succ j =>
        have := g3 j p' (by simpa using hp') (by rw [show i + 1 + j = i + (j + 1) by omega]; exact hm)
        rwa [show i + 1 + j = i + (j + 1) by omega] at this
    simp only [owed] at h
    cases hm : m.testBit i with
    | true =>
      rw [hm] at h
      exact next h (fun _ x => x) (fun _ x => x) (fun hf => by grind)
    | false =>
      rw [hm] at h
      simp only [cond_false] at h
      cases ha : apartT ops o p with
      | false => grind
      | true =>
        rw [ha] at h
        simp only [cond_true] at h
        split at h
        next hc => exact next h (fun _ x => x) (fun _ x => x) (fun _ => ⟨ha, .inl hc⟩)
        next hd _ => exact next h (fun _ x => x) (fun _ x => x) (fun _ => ⟨ha, .inr (.inl hd)⟩)
        next hc hd => exact next h (fun _ x => x) (fun _ x => x) (fun _ => ⟨ha, .inr (.inr (.inl ⟨hc, hd⟩))⟩)
        next hc hd =>
          refine next h (fun _ x => x) ?_ (fun _ => ⟨ha, .inr (.inr (.inr (.inl ⟨hc, hd, ?_⟩)))⟩)
          · grind
          grind
        next hc hd =>
          refine next h (fun _ x => x) ?_ (fun _ => ⟨ha, .inr (.inr (.inr (.inr (.inl ⟨hc, hd, ?_⟩))))⟩)
          · grind
          grind
        next hc hd =>
          exact next h (fun _ x => x) (fun x hx => List.mem_cons_of_mem _ hx) (fun _ => ⟨ha, .inr (.inr (.inr (.inr (.inr (.inl ⟨hc, hd, List.mem_cons_self⟩)))))⟩)
        next hc hd =>
          exact next h (fun _ x => x) (fun x hx => List.mem_cons_of_mem _ hx) (fun _ => ⟨ha, .inr (.inr (.inr (.inr (.inr (.inr (.inl ⟨hc, hd, List.mem_cons_self⟩))))))⟩)
        next hc hd =>
          cases hr : isRun o.op with
          | true =>
            rw [hr] at h
            exact next h (fun _ x => x) (fun x hx => List.mem_cons_of_mem _ hx) (fun _ => ⟨ha, .inr (.inr (.inr (.inr (.inr (.inr (.inr (.inr (.inl ⟨hc, hd, hr, List.mem_cons_self⟩))))))))⟩)
          | false =>
            rw [hr] at h
            refine next h (fun x hx => by simp_all) (fun _ x => x) (fun _ => ⟨ha, .inr (.inr (.inr (.inr (.inr (.inr (.inr (.inl ⟨by omega, by omega, fun e => by omega, fun _ => ?_⟩)))))))⟩)
            simp_all
        next hc hd =>
          cases hr : isRun p.op with
          | true =>
            rw [hr] at h
            exact next h (fun _ x => x) (fun x hx => List.mem_cons_of_mem _ hx) (fun _ => ⟨ha, .inr (.inr (.inr (.inr (.inr (.inr (.inr (.inr (.inr (.inl ⟨hc, hd, hr, List.mem_cons_self⟩)))))))))⟩)
          | false =>
            rw [hr] at h
            refine next h (fun x hx => by simp_all) (fun _ x => x) (fun _ => ⟨ha, .inr (.inr (.inr (.inr (.inr (.inr (.inr (.inl ⟨by omega, by omega, fun _ => ?_, fun e => by omega⟩)))))))⟩)
            simp_all
        next hc hd =>
          cases hr : isRun o.op && isAlloc p.op with
          | true =>
            rw [hr] at h
            simp only [Bool.and_eq_true] at hr
            exact next h (fun _ x => x) (fun x hx => List.mem_cons_of_mem _ hx) (fun _ => ⟨ha, .inr (.inr (.inr (.inr (.inr (.inr (.inr (.inr (.inr (.inr (.inl ⟨hc, hd, hr.1, hr.2, List.mem_cons_self⟩))))))))))⟩)
          | false =>
            rw [hr] at h
            refine next h (fun x hx => by simp_all) (fun _ x => x) (fun _ => ⟨ha, .inr (.inr (.inr (.inr (.inr (.inr (.inr (.inl ⟨by omega, by omega, fun e => by omega, fun _ => ?_⟩)))))))⟩)
            simp_all
        next hc hd =>
          cases hr : mapNew ops o n i with
          | true =>
            rw [hr] at h
            refine next h (fun x hx => by simp_all) (fun _ x => x) (fun _ => ⟨ha, .inr (.inr (.inr (.inr (.inr (.inr (.inr (.inr (.inr (.inr (.inr ⟨hc, hd, hr, ?_⟩))))))))))⟩)
            simp_all
          | false => grind
        next => cases h
        next => cases h
        next =>
          refine next h ?_ (fun _ x => x) (fun _ => ⟨ha, .inr (.inr (.inr (.inr (.inr (.inr (.inr (.inl ⟨?_, ?_, ?_, ?_⟩)))))))⟩)
          · intro x hx
            simp_all
          · omega
          · omega
          · grind[testBit_lor,Nat.beq,cls,testBit_pow]
          grind[testBit_lor,Nat.beq,cls,testBit_pow]
end Go.Ab

/- Drawn orders: the plan as a whole; the trace of the text order. -/
namespace Go.Ab

theorem owedAll_ok {E : Env} {ops : List Oper} : ∀ (os : List Oper) (ms : List Nat) (n q : Nat) (l : List (Nat × Nat)) (q' : Nat) (l' : List (Nat × Nat)), owedAll E ops os ms n (q, l) = some (q', l') →
    Sub q q' ∧ (∀ x ∈ l, x ∈ l') ∧ ∀ j o, os[j]? = some o → (cls E o.op = 4 → q'.testBit (n + j) = true) ∧
      ∃ m, ms[j]? = some m ∧ ∀ i p, i < n + j → ops[i]? = some p → m.testBit i = false → Owe E ops o p i (n + j) q' l'
  | [], ms, n, q, l, q', l', h => by cases ms <;> (cases h; exact ⟨fun _ x => x, fun _ x => x, fun j o ho => by simp at ho⟩)
  | o :: os, [], n, q, l, q', l', h => by cases h
  | o :: os, m :: ms, n, q, l, q', l', h => by
    simp only [owedAll] at h
    split at h
    next => cases h
    next q1 l1 h1 =>
      obtain ⟨f1, f2, f3⟩ := owed_ok _ _ _ _ _ _ h1
      obtain ⟨g1, g2, g3⟩ := owedAll_ok os ms (n + 1) _ l1 q' l' h
      have s1 : Sub q1 q' := by
        intro x hx
        apply g1
        cases Nat.beq (cls E o.op) 4 with
        | true => simp_all
        | false => exact hx
      refine ⟨fun x hx => s1 x (f1 x hx), fun x hx => g2 x (f2 x hx), fun j o' ho' => ?_⟩
      cases j with
      | zero =>
        simp at ho'
        subst ho'
        refine ⟨fun h4 => ?_, m, rfl, fun i p hi hp hm => ?_⟩
        · apply g1
          simp_all
        · have := f3 i p (by grind) (by grind)
          rw [Nat.zero_add] at this
          exact this.mono s1 g2
      | succ j =>
        grind

theorem plan_ok {E : Env} {ops : List Oper} {q : Nat} {ps : List (Nat × Nat)} (h : plan E ops = some (q, ps)) :
    ∃ M : List Nat, (∀ i, BefOk ops M i) ∧ ∀ n o, ops[n]? = some o → (cls E o.op = 4 → q.testBit n = true) ∧
      ∀ m, M[n]? = some m → ∀ i p, i < n → ops[i]? = some p → m.testBit i = false → Owe E ops o p i n q ps := by
  unfold plan at h
  split at h
  next => cases h
  next ms hms =>
    obtain ⟨_, _, f3⟩ := befs_ok _ _ _ hms
    obtain ⟨_, _, g3⟩ := owedAll_ok _ _ _ _ _ _ _ h
    refine ⟨ms.reverse, fun i o ho => ?_, fun n o ho => ?_⟩
    · simp_all
    grind

/-- One step of the text order. -/
inductive DStep (E : Env) (R : Rec) (ops : List Oper) (q i : Nat) (o : Oper) (l : Loc) (h : Hp) : Loc → Hp → Option Nat → Bool → Prop
  | skip : guardOk ops l.regs o = some false → DStep E R ops q i o l h (l.put o.dst (.tuple #[])) h none false
  | exec {v : Value} {h' : Hp} : guardOk ops l.regs o = some true → stepD E R (l.evD (tmpsOf o.op.operands.toList)) (hush E q i o.op) o h = some (v, h') →
      DStep E R ops q i o l h (l.put o.dst v) h' (touchA (l.evD (tmpsOf o.op.operands.toList)) o.op h) true

theorem trace_ok {E : Env} {R : Rec} {ops : List Oper} {q : Nat} : ∀ (os : List Oper) (i : Nat) (l : Loc) (h : Hp) (tr : List (Nat × Tch)) (l' : Loc) (h' : Hp) (tr' : List (Nat × Tch)), evOpsD E R ops q os i l h tr = some (l', h', tr') →
    (∀ k, k < i → entryOf k tr' = entryOf k tr) ∧
    ∃ (L : Nat → Loc) (H : Nat → Hp) (T : Nat → Option Nat) (X : Nat → Bool), L i = l ∧ H i = h ∧ L (i + os.length) = l' ∧ H (i + os.length) = h' ∧
      (∀ j o, os[j]? = some o → DStep E R ops q (i + j) o (L (i + j)) (H (i + j)) (L (i + j + 1)) (H (i + j + 1)) (T (i + j)) (X (i + j))) ∧
      (∀ j o b, os[j]? = some o → isRun o.op = false → T (i + j) = some b → entryOf (i + j) tr' = some (.blk b)) ∧
      (∀ j o, os[j]? = some o → isRun o.op = true → X (i + j) = true → hush E q (i + j) o.op = false → entryOf (i + j) tr' = some (.run (H (i + j)) (H (i + j + 1))))
  | [], i, l, h, tr, l', h', tr', hl => by
    cases hl
    exact ⟨fun _ _ => rfl, fun _ => l, fun _ => h, fun _ => none, fun _ => false, rfl, rfl, rfl, rfl, fun j o ho => by simp at ho, fun j o b ho => by simp at ho, fun j o ho => by simp at ho⟩
  | o :: os, i, l, h, tr, l', h', tr', hl => by
    have next : ∀ {l1 : Loc} {h1 : Hp} {tr1 : List (Nat × Tch)} {t : Option Nat} {x : Bool} {nt : Option Tch}, evOpsD E R ops q os (i + 1) l1 h1 tr1 = some (l', h', tr') → tr1 = noted i tr nt → DStep E R ops q i o l h l1 h1 t x →
        (isRun o.op = false → ∀ b, t = some b → nt = some (.blk b)) → (isRun o.op = true → x = true → hush E q i o.op = false → nt = some (.run h h1)) →
        (∀ k, k < i → entryOf k tr' = entryOf k tr) ∧
        ∃ (L : Nat → Loc) (H : Nat → Hp) (T : Nat → Option Nat) (X : Nat → Bool), L i = l ∧ H i = h ∧ L (i + (o :: os).length) = l' ∧ H (i + (o :: os).length) = h' ∧
          (∀ j o', (o :: os)[j]? = some o' → DStep E R ops q (i + j) o' (L (i + j)) (H (i + j)) (L (i + j + 1)) (H (i + j + 1)) (T (i + j)) (X (i + j))) ∧
          (∀ j o' b, (o :: os)[j]? = some o' → isRun o'.op = false → T (i + j) = some b → entryOf (i + j) tr' = some (.blk b)) ∧
          (∀ j o', (o :: os)[j]? = some o' → isRun o'.op = true → X (i + j) = true → hush E q (i + j) o'.op = false → entryOf (i + j) tr' = some (.run (H (i + j)) (H (i + j + 1)))) := by
      intro l1 h1 tr1 t x nt hl1 htr hd n1 n2
      obtain ⟨f1, L, H, T, X, g1, g2, g3, g4, g5, g6, g7⟩ := trace_ok os (i + 1) l1 h1 tr1 l' h' tr' hl1
      have hnoted : ∀ k, k < i → entryOf k tr1 = entryOf k tr := by
        intro k hk
        rw [htr]
        cases nt with
        | none => rfl
        | some b =>
          show (bif Nat.beq k i then some b else entryOf k tr) = _
          rw [nbeq_eq, decide_eq_false (by omega)]; rfl
      have hat : ∀ e, nt = some e → entryOf i tr' = some e := by
        intro e he
        rw [f1 i (by omega), htr, he]
        show (bif Nat.beq i i then some e else entryOf i tr) = _
        simp_all
      refine ⟨fun k hk => (f1 k (by omega)).trans (hnoted k hk), fun k => if k = i then l else L k, fun k => if k = i then h else H k, fun k => if k = i then t else T k, fun k => if k = i then x else X k, by simp, by simp, ?_, ?_, ?_, ?_, ?_⟩
      · grind
      · grind
      · grind
      · grind
      grind
    simp only [evOpsD] at hl
    split at hl
    next => cases hl
    next hg => exact next (t := none) (nt := none) hl rfl (.skip hg) (fun _ b e => by cases e) (fun _ e => by cases e)
    next hg =>
      split at hl
      next => cases hl
      next v h1 hs =>
        refine next hl rfl (.exec hg hs) (fun hr b hb => ?_) (fun hr _ hh => ?_)
        · unfold noteOf; rw [hr, hb]; rfl
        · unfold noteOf; rw [hr, hh]; rfl

theorem pairs_ok {tr : List (Nat × Tch)} : ∀ {ps : List (Nat × Nat)}, pairsOk tr ps = true → ∀ {i j : Nat}, (i, j) ∈ ps → pairOk (entryOf i tr) (entryOf j tr) = true
  | [], _, i, j, hm => by cases hm
  | (i', j') :: ps, h, i, j, hm => by
    simp only [pairsOk, Bool.and_eq_true] at h
    rcases List.mem_cons.1 hm with e | hm
    · cases e; exact h.1
    · exact pairs_ok h.2 hm

theorem sameAddr_ok {a b : Addr} (h : sameAddr a b = true) : a = b := by
  unfold sameAddr at h
  simp only [Bool.and_eq_true] at h
  obtain ⟨⟨h1, h2⟩, h3⟩ := h
  have e1 := Nat.eq_of_beq_eq_true h1
  have e2 := Nat.eq_of_beq_eq_true h2
  obtain ⟨x, y, z⟩ := a
  obtain ⟨x', y', z'⟩ := b
  simp only [] at e1 e2 h3
  subst e1 e2
  cases z <;> cases z' <;> simp at h3
  · rfl
  · subst h3; rfl
theorem quick0_ok {a b : Value} (h : quick0 a b = true) : a = b := by
  unfold quick0 at h
  split at h
  next t ht => subst h; exact keyEq_same ht
  next =>
    split at h
    next => rfl
    next => rw [sameAddr_ok h]
    next =>
      simp_all
    next =>
      simp only [Bool.and_eq_true] at h
      grind[sameAddr_ok,Nat.eq_of_beq_eq_true]
    next => rfl
    next => simp_all
    next => rfl
    next => rfl
    next => cases h
theorem quickL_ok : ∀ {l m : List Value}, quickL l m = true → l = m
  | [], [], _ => rfl
  | [], _ :: _, h => by cases h
  | _ :: _, [], h => by cases h
  | x :: l, y :: m, h => by
    simp only [quickL, Bool.and_eq_true] at h
    rw [quick0_ok h.1, quickL_ok h.2]
theorem quickV_ok {a b : Value} (h : quickV a b = true) : a = b := by
  unfold quickV at h
  split at h
  next g x y g' x' y' =>
    simp only [Bool.and_eq_true] at h
    grind[Nat.eq_of_beq_eq_true,Array.toList_inj,quickL_ok]
  next =>
    simp only [Bool.and_eq_true] at h
    rw [Nat.eq_of_beq_eq_true h.1, quick0_ok h.2]
  next => exact quick0_ok h
theorem sameT_ok : ∀ {t u : Tr Value}, sameT t u = true → t = u
  | .nil, .nil, _ => rfl
  | .nil, .node .., h => by cases h
  | .node .., .nil, h => by cases h
  | .node x l r, .node x' l' r', h => by
    simp only [sameT, Bool.and_eq_true] at h
    rw [quickV_ok h.1, sameT_ok h.2.1, sameT_ok h.2.2]
theorem sameE_ok : ∀ {l m : List (Value × Value × Nat)}, sameE l m = true → l = m
  | [], [], _ => rfl
  | [], _ :: _, h => by cases h
  | _ :: _, [], h => by cases h
  | (k, x, n) :: l, (k', y, m) :: l', h => by
    simp only [sameE, Bool.and_eq_true] at h
    rw [quick0_ok h.1, quickV_ok h.2.1, Nat.eq_of_beq_eq_true h.2.2.1, sameE_ok h.2.2.2]
theorem sameB_ok {x y : Blk} (h : sameB x y = true) : x = y := by
  unfold sameB at h
  rw [Bool.or_eq_true] at h
  rcases h with h | h
  · split at h
    next =>
      simp only [Bool.and_eq_true] at h
      grind[sameT_ok,Nat.eq_of_beq_eq_true]
    next =>
      simp only [Bool.and_eq_true] at h
      rw [Nat.eq_of_beq_eq_true h.1, sameE_ok h.2]
    next => cases h
  grind
theorem leaves_ok {h h' : Hp} {b : Nat} (e : leaves h h' b = true) : h'.get b = h.get b := by
  grind[leaves,sameB_ok]
theorem leaves_same {h h' : Hp} {b : Nat} (e : h'.get b = h.get b) : leaves h h' b = true := by
  unfold leaves
  rw [e]
  cases h.get b with
  | none => rfl
  | some x =>
    show sameB x x = true
    unfold sameB
    grind
end Go.Ab

/- Drawn orders: one step of the model, in a heap that stands to the abstract one. -/
namespace Go.Ab

theorem hrel_lo {mu : Mu} {h : Hp} {w : World} (hh : HRel mu h w) (x : Nat) : HRel mu { h with lo := x } w := ⟨hh.sized, hh.blk, hh.dead, hh.inj, hh.lt⟩

theorem touch_in {mu : Mu} {ρ ρ' : Operand → Value} (hρ : ∀ x, VRel mu (ρ x) (ρ' x)) {op : Op} {b : Nat} (ht : touch ρ op = some b) : mu b ≠ .none := by
  have ptr : ∀ {x : Operand}, (match ρ x with | .pointer (some a) => some a.block | _ => none) = some b → mu b ≠ .none := by
    intro x hx
    have := hρ x
    split at hx
    next a ha => rw [ha] at this; cases hx; generalize ρ' x = y at this; cases this; rename_i h1; exact h1.in
    next => cases hx
  have mp : ∀ {x : Operand}, (match ρ x with | .map r => r | _ => none) = some b → mu b ≠ .none := by
    intro x hx
    have := hρ x
    split at hx
    next r hr => rw [hr] at this; subst hx; generalize ρ' x = y at this; cases this; rename_i h1; exact h1.in
    next => cases hx
  have sl : ∀ {x : Operand}, (match ρ x with | .slice (some a) _ _ => some a.block | _ => none) = some b → mu b ≠ .none := by
    intro x hx
    have := hρ x
    split at hx
    next a l c ha => rw [ha] at this; cases hx; generalize ρ' x = y at this; cases this; rename_i h2 h1; exact h2.in
    next => cases hx
  unfold touch at ht
  cases op <;> simp only [] at ht <;> (try (cases ht; done)) <;> (try exact ptr ht) <;> (try exact mp ht) <;> (try exact sl ht)
  split at ht
  next x xs hx =>
    have := hρ x
    split at ht
    next r hr => rw [hr] at this; subst ht; generalize ρ' x = y at this; cases this; rename_i h1; exact h1.in
    next a l c ha => rw [ha] at this; cases ht; generalize ρ' x = y at this; cases this; rename_i h2 h1; exact h2.in
    next => cases ht
  next => cases ht

section
variable {E : Env} {P : Program} (ok : EOk E P) {R : Rec} (hc : CallOk E P R.call) (hcode : CodeOk P R.code)

include ok hc hcode in
theorem stepD_sim {mu : Mu} {h h' : Hp} {w : World} (hh : HRel mu h w) (hg : Glob mu) {ρ : Operand → Value} {tmps : Array Value} (hρ : ∀ x, VRel mu (ρ x) (evalC tmps x)) {F : FC} {dfs : List Deferred} {k : List Item} {cs : List Frame}
    {ops : Array Oper} {i : Nat} {rest : List Nat} {o : Oper} (ho : ops[i]? = some o) (hw : Region.wanted o (yielded ops tmps) = true) {quiet : Bool} {v : Value} (hl : stepD E R ρ quiet o h = some (v, h')) :
    ∃ mu' w' v', HRel mu' h' w' ∧ Ext mu h w mu' h' w' ∧ VRel mu' v v' ∧ (quiet = true → ∀ b, b < h.n → h'.get b = h.get b) ∧
      Steps P (lone (F.mk' tmps dfs (.inRegion ops (i :: rest) :: k)) cs w) (lone (F.mk' (putC tmps o.dst v') dfs (.inRegion ops rest :: k)) cs w') := by
  cases quiet with
  | false =>
    simp only [stepD, cond_false] at hl
    split at hl
    next v0 h0 hv =>
      cases hl
      obtain ⟨mu', w', g1, g2, v', g3, g4⟩ := opVal_sim ok hc hcode hh hg hρ (F := F) (dfs := dfs) (k := k) (cs := cs) (rest := rest) ho hw hv
      grind
    next => cases hl
  | true =>
    simp only [stepD, cond_true] at hl
    split at hl
    next v0 h0 hv =>
      cases hb : Nat.ble h.n h0.lo with
      | false => grind
      | true =>
        rw [hb] at hl
        cases hl
        have hle : h.n ≤ h0.lo := Nat.le_of_ble_eq_true hb
        obtain ⟨mu', w', g1, g2, v', g3, g4⟩ := opVal_sim ok hc hcode (hrel_lo hh h.n) hg hρ (F := F) (dfs := dfs) (k := k) (cs := cs) (rest := rest) ho hw hv
        have hsame : ∀ b, b < h.n → h0.get b = h.get b := fun b hb => g2.same b hb (by omega)
        exact ⟨mu', w', v', hrel_lo g1 h.lo, ⟨g2.n, g2.old, g2.fresh, Nat.le_refl _, fun b hb _ => hsame b hb, g2.frame, g2.ro, g2.wsize, g2.os, g2.tape, g2.output, g2.cover⟩, g3, fun _ => hsame, g4⟩
    next => cases hl

theorem memb_iff (t : Nat) : ∀ l : List Nat, memb t l = true ↔ t ∈ l
  | [] => by simp [memb]
  | x :: l => by
    simp_all[memb,Bool.or_eq_true,List.mem_cons,memb_iff,Nat.eq_of_beq_eq_true,Nat.beq_refl]
theorem mem_tmpsOf (t : Tmp) : ∀ l : List Operand, t ∈ tmpsOf l ↔ .tmp t ∈ l
  | [] => by simp [tmpsOf]
  | x :: l => by
    cases x <;> simp [tmpsOf, mem_tmpsOf t l]

/-- What an operation sees of its own temporaries. -/
theorem evD_rel {mu : Mu} {l : Loc} {n : Nat} {tmps : Array Value} (hs : l.regs.Sized n) (hsz : tmps.size = n) (ts : List Tmp) (hr : ∀ t ∈ ts, ∀ v, l.regs.get t = some v → ∃ v', tmps[t]? = some v' ∧ VRel mu v v')
    (hg : Glob mu) (x : Operand) : VRel mu (l.evD ts x) (evalC tmps x) := by
  cases x with
  | tmp t =>
    simp only [Loc.evD]
    cases hm : memb t ts with
    | false => exact .poison _
    | true =>
      simp only [cond_true, Loc.ev, evalC]
      cases hv : l.regs.get t with
      | none =>
        have : n ≤ t := by
          rcases Nat.lt_or_ge t n with h1 | h1
          · obtain ⟨v, h2⟩ := Tr.get_some hs h1; grind
          · exact h1
        rw [Array.getD_eq_getD_getElem?, Array.getElem?_eq_none (by omega)]
        exact .tuple rfl (by grind)
      | some v =>
        obtain ⟨v', h1, h2⟩ := hr t ((memb_iff t ts).1 hm) v hv
        simp_all
  | const v =>
    simp only [Loc.evD, Loc.ev, evalC]
    cases hc : okConst v with
    | true => simp only [cond_true]; exact VRel.const mu hc
    | false => simp only [cond_false]; exact .poison v
  | global g =>
    simp only [Loc.evD, Loc.ev, evalC]
    cases hgg : Nat.blt g 16 with
    | true => simp only [cond_true]; exact .ptr (hg g (by simp_all))
    | false => simp only [cond_false]; exact .poison _
  | func f => exact .fn rfl (by grind) rfl (by grind)

/-- A guard, by its own temporary. -/
theorem guard_rel' {mu : Mu} {ops : Array Oper} {t : Tr Value} {tmps : Array Value} {o : Oper} {b : Bool}
    (hr : ∀ j want o' d, o.guard = some (j, want) → ops[j]? = some o' → o'.dst = some d → ∀ v, t.get d = some v → ∃ v', tmps[d]? = some v' ∧ VRel mu v v')
    (hg : guardOk ops.toList t o = some b) : Region.wanted o (yielded ops tmps) = b := by
  unfold guardOk at hg
  unfold Region.wanted
  cases hgu : o.guard with
  | none => grind
  | some q =>
    obtain ⟨j, want⟩ := q
    rw [hgu] at hg
    simp only [] at hg ⊢
    unfold yielded
    cases hj : ops[j]? with
    | none => grind
    | some o' =>
      rw [Array.getElem?_toList, hj] at hg
      simp only [Option.bind_some] at hg ⊢
      cases hd : o'.dst with
      | none => grind
      | some d =>
        rw [hd] at hg
        simp only [Option.bind_some] at hg ⊢
        split at hg
        next b' hb =>
          obtain ⟨v', h1, h2⟩ := hr j want o' d hgu hj hd _ hb
          cases h2
          rw [h1]
          cases hg
          grind
        next x hb =>
          obtain ⟨v', h1, h2⟩ := hr j want o' d hgu hj hd _ hb
          rw [h1]
          cases hg
          cases h2
          rfl
        next => cases hg
end
end Go.Ab

/- Drawn orders: kinds of operations, which of them are ordered; the shadow in text order. -/
namespace Go.Ab

theorem cls_le {E : Env} (op : Op) : cls E op ≤ 5 := by
  unfold cls
  grind

theorem alloc_cls {E : Env} {op : Op} (h : isAlloc op = true) : cls E op = 4 := by
  unfold isAlloc at h
  split at h
  · rfl
  · cases h
theorem touchA_cls {E : Env} {op : Op} (h : cls E op ≠ 4) (ρ : Operand → Value) (hp : Hp) : touchA ρ op hp = touch ρ op := by
  grind[touchA,isAlloc,absurd,alloc_cls]
theorem isRun_cls {E : Env} {op : Op} (h : cls E op ≠ 3) : isRun op = false := by
  cases op <;> (try rfl)
  rename_i c
  obtain ⟨callee, args⟩ := c
  cases callee <;> first | rfl | (exact absurd rfl h)

structure DT (E : Env) (R : Rec) (ops : Array Oper) (q : Nat) (ps : List (Nat × Nat)) (M : List Nat) (L : Nat → Loc) (H : Nat → Hp) (T : Nat → Option Nat) (X : Nat → Bool) : Prop where
  bef : ∀ i, BefOk ops.toList M i
  four : ∀ (n : Nat) o, ops[n]? = some o → cls E o.op = 4 → q.testBit n = true
  owe : ∀ (n : Nat) o m (i : Nat) p, ops[n]? = some o → M[n]? = some m → i < n → ops[i]? = some p → m.testBit i = false → Owe E ops.toList o p i n q ps
  step : ∀ (i : Nat) o, ops[i]? = some o → DStep E R ops.toList q i o (L i) (H i) (L (i + 1)) (H (i + 1)) (T i) (X i)
  pair : ∀ {i j a b : Nat} {o p : Oper}, (i, j) ∈ ps → ops[i]? = some o → ops[j]? = some p → isRun o.op = false → isRun p.op = false → T i = some a → T j = some b → a ≠ b
  leave : ∀ {i j a : Nat} {o p : Oper}, ((i, j) ∈ ps ∨ (j, i) ∈ ps) → ops[i]? = some o → ops[j]? = some p → isRun o.op = false → isRun p.op = true → X j = true → hush E q j p.op = false → T i = some a → (H (j + 1)).get a = (H j).get a

/-- A writer that must stand in order. -/
def isW (E : Env) (X : Nat → Bool) (q : Nat) (o : Oper) (i : Nat) : Prop := X i = true ∧ (cls E o.op = 2 ∨ ((cls E o.op = 3 ∨ cls E o.op = 5) ∧ q.testBit i = false))
/-- A quiet one. -/
def isQ (E : Env) (X : Nat → Bool) (q : Nat) (o : Oper) (i : Nat) : Prop := X i = true ∧ 3 ≤ cls E o.op ∧ q.testBit i = true
/-- One that reads at most. -/
def isR (E : Env) (X : Nat → Bool) (o : Oper) (i : Nat) : Prop := X i = false ∨ cls E o.op ≤ 1

def Down (ops : Array Oper) (S : Nat → Bool) : Prop := ∀ i o, ops[i]? = some o → S i = true → ∀ e ∈ o.after.toList, binds e = true → S e.on = true
def Ready (o : Oper) (S : Nat → Bool) : Prop := ∀ e ∈ o.after.toList, binds e = true → S e.on = true

section
variable {E : Env} {R : Rec} {ops : Array Oper} {q : Nat} {ps : List (Nat × Nat)} {M : List Nat} {L : Nat → Loc} {H : Nat → Hp} {T : Nat → Option Nat} {X : Nat → Bool} (D : DT E R ops q ps M L H T X)
include D

theorem kinds {i : Nat} {o : Oper} (ho : ops[i]? = some o) : isR E X o i ∨ isQ E X q o i ∨ isW E X q o i := by
  cases hx : X i with
  | false => exact .inl (.inl hx)
  | true =>
    have h5 := cls_le (E := E) o.op
    rcases Nat.lt_or_ge (cls E o.op) 2 with h | h
    · exact .inl (.inr (by omega))
    · by_cases h2 : cls E o.op = 2
      · exact .inr (.inr ⟨hx, .inl h2⟩)
      · cases hb : q.testBit i with
        | true => exact .inr (.inl ⟨hx, by omega, hb⟩)
        | false =>
          have h4 : cls E o.op ≠ 4 := by intro e; have := D.four i o ho e; grind
          exact .inr (.inr ⟨hx, .inr ⟨by omega, hb⟩⟩)

theorem down_bit {S : Nat → Bool} (hd : Down ops S) : ∀ (n : Nat) (o : Oper) (m i : Nat), ops[n]? = some o → M[n]? = some m → S n = true → m.testBit i = true → S i = true := by
  intro n
  induction n using Nat.strongRecOn with
  | _ n ih =>
    intro o m i ho hm hs hb
    obtain ⟨m', h1, h2, h3⟩ := D.bef n o (by grind)
    rw [hm] at h1; cases h1
    obtain ⟨e, he, hbe, x⟩ := h3 i hb
    have hse := hd n o ho hs e he hbe
    grind
theorem ready_bit {S : Nat → Bool} (hd : Down ops S) {n : Nat} {o : Oper} {m i : Nat} (ho : ops[n]? = some o) (hm : M[n]? = some m) (hr : Ready o S) (hb : m.testBit i = true) : S i = true := by
  obtain ⟨m', h1, h2, h3⟩ := D.bef n o (by grind)
  rw [hm] at h1; cases h1
  obtain ⟨e, he, hbe, x⟩ := h3 i hb
  have hse := hr e he hbe
  rcases x with rfl | ⟨m2, hm2, hb2⟩
  · exact hse
  · have hlt := h2 e he hbe
    have hn : n < ops.size := (Array.getElem?_eq_some_iff.1 ho).1
    exact down_bit D hd e.on ops[e.on] m2 i (Array.getElem?_eq_getElem (by omega)) hm2 hse hb2
theorem mask {n : Nat} {o : Oper} (ho : ops[n]? = some o) : ∃ m, M[n]? = some m := by
  obtain ⟨m', h1, _⟩ := D.bef n o (by grind)
  grind

/-- Writers are ordered, with one another and with the quiet ones, but for those that write a map that is made behind a quiet one. -/
theorem cmpN {n i : Nat} {o p : Oper} {m : Nat} (ho : ops[n]? = some o) (hm : M[n]? = some m) (hi : i < n) (hp : ops[i]? = some p)
    (h : (isW E X q p i ∧ (isW E X q o n ∨ isQ E X q o n)) ∨ (isQ E X q p i ∧ isW E X q o n ∧ isAlloc p.op = false)) : m.testBit i = true ∨ (isQ E X q p i ∧ cls E o.op = 2 ∧ mapNew ops.toList o n i = true) := by
  cases hb : m.testBit i with
  | true => exact .inl rfl
  | false =>
    by_cases hsp : isQ E X q p i ∧ cls E o.op = 2 ∧ mapNew ops.toList o n i = true
    · exact .inr hsp
    exfalso
    obtain ⟨_, hw⟩ := D.owe n o m i p ho hm hi hp hb
    have key : ∀ {x y : Oper} {a b : Nat}, isW E X q x a → (isW E X q y b ∨ isQ E X q y b) → cls E x.op ≠ 0 ∧ cls E x.op ≠ 1 ∧ cls E y.op ≠ 0 ∧ cls E y.op ≠ 1 := by
      intro x y a b hx hy
      obtain ⟨_, hx⟩ := hx
      rcases hy with ⟨_, hy⟩ | ⟨_, hy, _⟩ <;> (omega)
    rcases h with ⟨h1, h2⟩ | ⟨h1, h2, hna⟩
    · obtain ⟨k1, k2, k3, k4⟩ := key h1 h2
      rcases hw with h | h | ⟨h, _⟩ | ⟨_, h, _⟩ | ⟨h, _⟩ | ⟨_, h, _⟩ | ⟨h, _⟩ | ⟨a, b, c, d⟩ | ⟨_, h, _⟩ | ⟨h, _⟩ | ⟨e3, e4, _, e5, _⟩ | ⟨e6, e7, e8, e9⟩
      · exact k3 h
      · exact k1 h
      · exact k4 h
      · exact k2 h
      · exact k4 h
      · exact k2 h
      · exact k4 h
      · obtain ⟨_, hx⟩ := h1
        grind
      · exact k2 h
      · exact k4 h
      · obtain ⟨_, hx⟩ := h1
        omega
      · obtain ⟨_, hx⟩ := h1
        grind
    · obtain ⟨k1, k2, k3, k4⟩ := key h2 (.inr h1)
      rcases hw with h | h | ⟨h, _⟩ | ⟨_, h, _⟩ | ⟨h, _⟩ | ⟨_, h, _⟩ | ⟨h, _⟩ | ⟨a, b, c, d⟩ | ⟨_, h, _⟩ | ⟨h, _⟩ | ⟨e3, e4, _, e5, _⟩ | ⟨e6, e7, e8, e9⟩
      · exact k1 h
      · exact k3 h
      · exact k2 h
      · exact k4 h
      · exact k2 h
      · exact k4 h
      · exact k2 h
      · obtain ⟨_, hx⟩ := h2
        grind
      · exact k4 h
      · exact k2 h
      · grind
      grind
theorem cmp {n i : Nat} {o p : Oper} {m : Nat} (ho : ops[n]? = some o) (hm : M[n]? = some m) (hi : i < n) (hp : ops[i]? = some p)
    (h : isW E X q p i ∧ (isW E X q o n ∨ isQ E X q o n)) : m.testBit i = true := by
  rcases cmpN D ho hm hi hp (.inl h) with x | ⟨x, _⟩
  · exact x
  · exfalso
    have h2 := h.1.2
    have h3 := x.2.2
    rcases h2 with y | ⟨_, y⟩
    · have := x.2.1; omega
    grind

/-- A temporary that an operation names has, when it runs, the writers that it has in text order. -/
theorem names_cond {S : Nat → Bool} (hd : Down ops S) {n : Nat} {o : Oper} (ho : ops[n]? = some o) (hr : Ready o S) (hn : S n = false) {t : Tmp} (ht : t ∈ namesOf ops.toList o) :
    ∀ (p : Nat) (op : Oper), ops[p]? = some op → op.dst = some t → (p < n ↔ S p = true) := by
  intro p op hop hdst
  obtain ⟨m, hm⟩ := mask D ho
  obtain ⟨mp, hmp⟩ := mask D hop
  have tin : t ∈ namesOf ops.toList op := by unfold namesOf; rw [hdst]; simp
  rcases Nat.lt_trichotomy p n with h | h | h
  · refine ⟨fun _ => ?_, fun _ => h⟩
    cases hb : m.testBit p with
    | true => exact ready_bit D hd ho hm hr hb
    | false =>
      exfalso
      obtain ⟨ha, _⟩ := D.owe n o m p op ho hm h hop hb
      simp only [apartT, hdst, Bool.and_eq_true, Bool.not_eq_true'] at ha
      grind[memb_iff]
  · grind
  · refine ⟨fun h' => absurd h' (by omega), fun hs => ?_⟩
    exfalso
    cases hb : mp.testBit n with
    | true => grind[down_bit]
    | false =>
      obtain ⟨ha, _⟩ := D.owe p op mp n o hop hmp h ho hb
      simp only [apartT, hdst, Bool.and_eq_true, Bool.not_eq_true'] at ha
      grind[memb_iff]
end

section
variable {E : Env} {P : Program} (ok : EOk E P) {R : Rec} (hc : CallOk E P R.call) (hcode : CodeOk P R.code)
variable {ops : Array Oper} {q : Nat} {ps : List (Nat × Nat)} {M : List Nat} {L : Nat → Loc} {H : Nat → Hp} {T : Nat → Option Nat} {X : Nat → Bool} (D : DT E R ops q ps M L H T X)

/-- The state of the text order, somewhere. -/
def Shadow (n : Nat) (mu0 : Mu) (w0 : World) (L : Nat → Loc) (H : Nat → Hp) (i : Nat) : Prop :=
  ∃ muT wT tmpsT, HRel muT (H i) wT ∧ Glob muT ∧ RRel muT (L i).regs n tmpsT ∧ Ext mu0 (H 0) w0 muT (H i) wT

structure Turn (ops : Array Oper) (E : Env) (X : Nat → Bool) (q : Nat) (H : Nat → Hp) (T : Nat → Option Nat) (i : Nat) (o : Oper) : Prop where
  n : (H i).n ≤ (H (i + 1)).n
  quiet : isQ E X q o i → ∀ b, b < (H i).n → (H (i + 1)).get b = (H i).get b
  still : isR E X o i → H (i + 1) = H i

theorem read_still {E : Env} {R : Rec} {ρ : Operand → Value} {o : Oper} {h h' : Hp} {v : Value} (hcls : cls E o.op ≤ 1) {quiet : Bool} (hq : quiet = false) (hl : stepD E R ρ quiet o h = some (v, h')) : h' = h := by
  subst hq
  obtain ⟨f, f1, _, _⟩ := shape_op (E := E) (op := o.op) (ρ := ρ) (by omega)
  simp only [stepD, cond_false] at hl
  rw [f1 h] at hl
  cases hf : f h with
  | none => rw [hf] at hl; cases hl
  | some u => rw [hf] at hl; cases hl; rfl
theorem hush_read {E : Env} {q i : Nat} {op : Op} (hcls : cls E op ≤ 1) : hush E q i op = false := by
  grind[hush,Nat.ble,cls,Nat.le_of_ble_eq_true]
theorem hush_quiet {E : Env} {q i : Nat} {op : Op} (h3 : 3 ≤ cls E op) (hb : q.testBit i = true) : hush E q i op = true := by
  unfold hush
  simp_all

include ok hc hcode D in
theorem shadow {n : Nat} {mu0 : Mu} {w0 : World} : ∀ (i : Nat), i ≤ ops.size → Shadow n mu0 w0 L H 0 → Shadow n mu0 w0 L H i ∧ (∀ j o, j < i → ops[j]? = some o → Turn ops E X q H T j o)
  | 0, _, h0 => ⟨h0, fun j o hj => absurd hj (by omega)⟩
  | i + 1, hi, h0 => by
    obtain ⟨⟨muT, wT, tmpsT, g1, g2, g3, g4⟩, ht⟩ := shadow i (by omega) h0
    have ho : ops[i]? = some ops[i] := Array.getElem?_eq_getElem (by omega)
    have hs := D.step i ops[i] ho
    suffices hx : Shadow n mu0 w0 L H (i + 1) ∧ Turn ops E X q H T i ops[i] by
      grind
    generalize hL : L (i + 1) = L1 at hs
    generalize hH : H (i + 1) = H1 at hs
    generalize hT : T i = T1 at hs
    generalize hX : X i = X1 at hs
    cases hs with
    | skip hg =>
      refine ⟨⟨muT, wT, putC tmpsT ops[i].dst undef, by grind, g2, ?_, by grind⟩, ⟨by grind, (fun ⟨h, _⟩ => by grind), fun _ => hH⟩⟩
      rw [hL]
      have := put_rel g3 ops[i].dst (v := .tuple #[]) (v' := undef) (.tuple rfl (by grind))
      cases hd : ops[i].dst with
      | none => rw [hd] at this; exact this
      | some d => rw [hd] at this; exact this
    | exec hg hst =>
      rename_i v
      have hw := guard_rel g3 hg
      have hρ := fun x => evD_rel (l := L i) g3.sized g3.size (tmpsOf ops[i].op.operands.toList) (fun t _ v hv => g3.get t v hv) g2 x
      obtain ⟨mu', w', v', k1, k2, k3, k4, _⟩ := stepD_sim ok hc hcode g1 g2 hρ (F := ⟨0, .normal, none⟩) (dfs := []) (k := []) (cs := []) (rest := []) ho hw hst
      have le := k2.le g1
      refine ⟨⟨mu', w', putC tmpsT ops[i].dst v', by grind, g2.mono le, ?_, by rw [hH]; exact Ext.trans g4 k2⟩, ⟨by rw [hH]; exact k2.n, ?_, ?_⟩⟩
      · rw [hL]
        have := put_rel (g3.mono le) ops[i].dst k3
        cases hd : ops[i].dst with
        | none => rw [hd] at this; exact this
        | some d => rw [hd] at this; exact this
      · intro ⟨_, h3, hb⟩ b hb'
        grind[hush_quiet]
      · intro hr
        rcases hr with hr | hr
        · grind
        grind[read_still,hush_read]
end
end Go.Ab

/- Drawn orders: a read sees what it saw in text order. -/
namespace Go.Ab

theorem w_plain {E : Env} {op : Op} {ρ : Operand → Value} {h h1 : Hp} {nx : ANext} (hc : cls E op = 2 ∨ cls E op = 5) (ha : aop E ρ h op = some (nx, h1)) : (∃ v, nx = .val v) ∨ nx = .skip := by
  have wv : ∀ {r : Option (Hp × Value)}, wrapV r = some (nx, h1) → (∃ v, nx = .val v) ∨ nx = .skip := by
    intro r hr
    cases r with
    | none => cases hr
    | some q => obtain ⟨a, b⟩ := q; cases hr; exact .inl ⟨b, rfl⟩
  have wu : ∀ {r : Option Hp}, wrapU r = some (nx, h1) → (∃ v, nx = .val v) ∨ nx = .skip := by
    intro r hr
    cases r with
    | none => cases hr
    | some q => cases hr; exact .inr rfl
  cases op
  case store => exact wu ha
  case mapUpdate => exact wu ha
  case insert => exact wu ha
  case mapEntry => exact wv ha
  case entryStore => exact wu ha
  case call c =>
    cases hcc : c.callee with
    | value f => simp [cls, hcc] at hc
    | invoke r n => simp [cls, hcc] at hc
    | builtin bi =>
      cases bi <;> (try (simp [cls, hcc] at hc; done))
      case append =>
        simp only [aop, hcc] at ha
        split at ha
        next => exact wv ha
        next => cases ha
      case copy =>
        simp only [aop, hcc] at ha
        split at ha
        next => exact wv ha
        next => cases ha
      case delete =>
        simp only [aop, hcc] at ha
        split at ha
        next =>
          split at ha
          next => cases ha
          next => cases ha; exact .inl ⟨_, rfl⟩
        next => cases ha
  case convert src dst x =>
    exfalso
    unfold cls at hc
    simp only [] at hc
    split at hc <;> omega
  all_goals first
    | (exfalso; simp [cls] at hc; done)
    | (exfalso; unfold cls at hc; simp only [] at hc; split at hc <;> simp at hc; done)
theorem stepD_w {E : Env} {R : Rec} {ρ : Operand → Value} {o : Oper} {h h' : Hp} {v : Value} (hcls : cls E o.op = 2 ∨ cls E o.op = 5) (hl : stepD E R ρ false o h = some (v, h')) : ∃ nx, aop E ρ h o.op = some (nx, h') := by
  simp only [stepD, cond_false] at hl
  cases ha : aop E ρ h o.op with
  | none => rw [ha] at hl; cases hl
  | some p =>
    obtain ⟨nx, h1⟩ := p
    rw [ha] at hl
    rcases w_plain hcls ha with ⟨u, rfl⟩ | rfl
    · cases hl; exact ⟨_, rfl⟩
    · cases hl; exact ⟨_, rfl⟩
theorem wrapR_inj {h : Hp} {a b : Option Value} (e : wrapR h a = wrapR h b) : a = b := by
  cases a <;> cases b <;> simp [wrapR] at e ⊢
  exact e

section
variable {E : Env} {R : Rec} {ops : Array Oper} {q : Nat} {ps : List (Nat × Nat)} {M : List Nat} {L : Nat → Loc} {H : Nat → Hp} {T : Nat → Option Nat} {X : Nat → Bool} (D : DT E R ops q ps M L H T X)

theorem hush_w {i : Nat} {o : Oper} (hw : isW E X q o i) : hush E q i o.op = false := by
  unfold hush
  rcases hw.2 with h | ⟨_, h⟩
  · rw [h, show Nat.ble 3 2 = false from rfl]; simp
  · rw [h]; simp

theorem n_mono (turn : ∀ j o, j < ops.size → ops[j]? = some o → Turn ops E X q H T j o) {i j : Nat} (hij : i ≤ j) (hj : j ≤ ops.size) : (H i).n ≤ (H j).n := by
  induction j with
  | zero => have : i = 0 := by omega
            subst this; exact Nat.le_refl _
  | succ j ih =>
    by_cases e : i = j + 1
    · subst e; exact Nat.le_refl _
    · exact Nat.le_trans (ih (by omega) (by omega)) (turn j ops[j] (by omega) (Array.getElem?_eq_getElem (by omega))).n

theorem walk_eq {α : Type} (φ : Nat → α) {a : Nat} : ∀ (d : Nat), (∀ j, a ≤ j → j < a + d → φ (j + 1) = φ j) → φ (a + d) = φ a
  | 0, _ => rfl
  | d + 1, h => by
    have h1 := h (a + d) (by omega) (by omega)
    have h2 := walk_eq φ d (fun j hj hj' => h j hj (by omega))
    rw [← h2, ← h1]; rfl

include D in
/-- A writer that is not ordered with a read leaves what the read sees. -/
theorem w_leaves (sized : ∀ j, j ≤ ops.size → (H j).t.Sized (H j).n) {p j : Nat} {o oj : Oper} (ho : ops[p]? = some o) (hoj : ops[j]? = some oj) (hw : isW E X q oj j) (hcls : cls E o.op ≤ 1) {ρ : Operand → Value} (hT : T p = touch ρ o.op)
    (hu : (p < j ∧ Owe E ops.toList oj o p j q ps) ∨ (j < p ∧ Owe E ops.toList o oj j p q ps)) (hlt : ∀ b, touch ρ o.op = some b → b < (H j).n)
    {f : Hp → Option Value} (f1 : ∀ h, aop E ρ h o.op = wrapR h (f h)) (f2 : cls E o.op = 0 → ∀ h h2, f h = f h2) (f3 : ∀ h h2, (∀ b, touch ρ o.op = some b → h2.get b = h.get b) → f h = f h2) :
    f (H (j + 1)) = f (H j) := by
  have hp := (Array.getElem?_eq_some_iff.1 ho).1
  have hjs := (Array.getElem?_eq_some_iff.1 hoj).1
  by_cases h0 : cls E o.op = 0
  · exact f2 h0 _ _
  have h1 : cls E o.op = 1 := by omega
  -- what the writer's step is
  have hs := D.step j oj hoj
  generalize hL : L (j + 1) = L1 at hs
  generalize hH : H (j + 1) = H1 at hs
  generalize hTj : T j = T1 at hs
  generalize hX : X j = X1 at hs
  cases hs with
  | skip hg => exact absurd hw.1 (by rw [hX]; simp)
  | exec hg hst =>
    rw [hush_w hw] at hst
    have pairCase : ((p, j) ∈ ps ∨ (j, p) ∈ ps) → (cls E oj.op = 2 ∨ cls E oj.op = 5) → f H1 = f (H j) := by
      intro hm hc2
      obtain ⟨nx, ha⟩ := stepD_w hc2 hst
      refine (f3 _ _ fun b hb => ?_).symm
      refine w_only (sized j (by omega)) hc2 ha b (hlt b hb) ?_
      intro e
      rcases hm with hm | hm
      · exact D.pair hm ho hoj (isRun_cls (E := E) (by omega)) (isRun_cls (E := E) (by omega)) (hT.trans hb) ((hTj.trans (touchA_cls (E := E) (by omega) _ _)).trans e) rfl
      · exact D.pair hm hoj ho (isRun_cls (E := E) (by omega)) (isRun_cls (E := E) (by omega)) ((hTj.trans (touchA_cls (E := E) (by omega) _ _)).trans e) (hT.trans hb) rfl
    have runCase : ((p, j) ∈ ps ∨ (j, p) ∈ ps) → isRun oj.op = true → f H1 = f (H j) := by
      intro hm hr
      refine (f3 _ _ fun b hb => ?_).symm
      rw [← hH]
      exact D.leave hm ho hoj (isRun_cls (E := E) (by omega)) hr hX (hush_w hw) (hT.trans hb)
    have lookCase : lookEnt oj.op o.op = true → f H1 = f (H j) := by
      intro hle
      unfold lookEnt at hle
      split at hle
      next t m k t' m' k' okb e1 e2 =>
        simp only [Bool.and_eq_true, Bool.not_eq_true'] at hle
        have htt : t = t' := Nat.eq_of_beq_eq_true hle.2
        have hok : okb = false := hle.1
        subst htt
        subst hok
        obtain ⟨nx, ha⟩ := stepD_w (.inl (by rw [e1]; rfl)) hst
        have hf : ∀ h, f h = lookupV E h t (ρ m') (ρ k') false := by
          intro h
          have := f1 h
          rw [e2] at this
          exact wrapR_inj this.symm
        rw [e1] at ha
        rw [hf, hf]
        exact look_ent ha _ _
      next => cases hle
    have hw2 := hw.2
    rcases hu with ⟨hlt', hu⟩ | ⟨hlt', hu⟩
    · rcases hu.2 with h | h | ⟨h, _⟩ | ⟨h, _, h'⟩ | ⟨h, _⟩ | ⟨h, _, h'⟩ | ⟨h, _⟩ | ⟨a, b, c, d⟩ | ⟨_, _, hr, h'⟩ | ⟨h, _, hr, h'⟩ | ⟨_, h, _⟩ | ⟨_, h, _⟩
      · omega
      · omega
      · omega
      · rcases h' with h' | h'
        · exact lookCase h'
        · exact pairCase (.inl h') (.inl h)
      · omega
      · exact pairCase (.inl h') (.inr h)
      · omega
      · rcases hw2 with hx | ⟨hx, hq⟩
        · exact absurd hx a
        · rw [d hx] at hq; cases hq
      · exact runCase (.inl h') hr
      · omega
      · omega
      · omega
    · rcases hu.2 with h | h | ⟨_, h⟩ | ⟨h, _⟩ | ⟨_, h, h'⟩ | ⟨h, _⟩ | ⟨_, h, h'⟩ | ⟨a, b, c, d⟩ | ⟨_, h, hr, h'⟩ | ⟨_, _, hr, h'⟩ | ⟨h, _⟩ | ⟨h, _⟩
      · omega
      · omega
      · omega
      · omega
      · rcases h' with h' | h'
        · exact lookCase h'
        · exact pairCase (.inr h') (.inl h)
      · omega
      · exact pairCase (.inr h') (.inr h)
      · rcases hw2 with hx | ⟨hx, hq⟩
        · exact absurd hx b
        · rw [c hx] at hq; cases hq
      · omega
      · exact runCase (.inr h') hr
      · omega
      · omega
end
end Go.Ab

/- Drawn orders: the invariant; registers. -/
namespace Go.Ab

structure WExt (mu0 : Mu) (h0 : Hp) (w0 : World) (mu : Mu) (w : World) : Prop where
  old : ∀ b, b < h0.n → mu b = mu0 b ∨ (mu0 b ≠ .none ∧ mu b = .dead)
  fresh : ∀ b c base top, h0.n ≤ b → mu b = .blk c base top → w0.heap.size ≤ c ∨ ∃ b0 base0 top0, b0 < h0.n ∧ mu0 b0 = .blk c base0 top0 ∧ mu b0 = .dead
  frame : ∀ c, c < w0.heap.size → (∀ b base top, mu0 b ≠ .blk c base top) → w.heap[c]? = w0.heap[c]?
  ro : ∀ b c base top t sz el, mu0 b = .blk c base top → h0.get b = some (.cells t sz el 0) → w.heap[c]? = w0.heap[c]? ∧ mu b = mu0 b
  wsize : w0.heap.size ≤ w.heap.size
  os : w.os = w0.os
  tape : w.tape = w0.tape
  output : w.output = w0.output

theorem WExt.refl {mu : Mu} {h : Hp} {w : World} (hh : HRel mu h w) : WExt mu h w mu w :=
  ⟨fun _ _ => .inl rfl, fun b c base top hb hm => absurd (hh.lt b (by grind)) (by omega), fun _ _ _ => rfl, fun _ _ _ _ _ _ _ _ _ => ⟨rfl, rfl⟩, Nat.le_refl _, rfl, rfl, rfl⟩

theorem WExt.step {mu0 mu mu1 mu2 : Mu} {h0 ha hz : Hp} {w0 w w' : World} (W : WExt mu0 h0 w0 mu w) (lt0 : ∀ b, mu0 b ≠ .none → b < h0.n) (na : h0.n ≤ ha.n) (e : Ext (cut mu ha.n) ha w mu1 hz w')
    (hro : ∀ b c base top t sz el, mu0 b = .blk c base top → h0.get b = some (.cells t sz el 0) → ha.get b = some (.cells t sz el 0)) (lo2 : ∀ b, b < hz.n → mu2 b = mu1 b) (hi2 : ∀ b, hz.n ≤ b → mu2 b = mu b) : WExt mu0 h0 w0 mu2 w' := by
  have hn := e.n
  have hdead : ∀ b0, b0 < h0.n → mu b0 = .dead → mu2 b0 = .dead := by
    intro b0 hb0 hd
    rw [lo2 b0 (by omega)]
    rcases e.old b0 (by omega) with x | ⟨_, x⟩
    · rw [x, cut_lt (by omega)]; exact hd
    · exact x
  have hno : ∀ c, c < w0.heap.size → (∀ b base top, mu0 b ≠ .blk c base top) → ∀ b base top, cut mu ha.n b ≠ .blk c base top := by
    intro c hc hn0 b base top hm
    by_cases hb : b < ha.n
    · rw [cut_lt hb] at hm
      by_cases hb0 : b < h0.n
      · rcases W.old b hb0 with x | ⟨_, x⟩
        · grind
        grind
      · rcases W.fresh b c base top (by omega) hm with x | ⟨b0, base0, top0, _, x, _⟩
        · omega
        grind
    grind[cut_ge]
  refine ⟨?_, ?_, ?_, ?_, Nat.le_trans W.wsize e.wsize, e.os.trans W.os, e.tape.trans W.tape, e.output.trans W.output⟩
  · intro b hb
    rw [lo2 b (by omega)]
    rcases e.old b (by omega) with x | ⟨x, y⟩
    · rw [x, cut_lt (by omega)]; exact W.old b hb
    · rw [cut_lt (by omega)] at x
      rcases W.old b hb with z | ⟨z, _⟩
      · grind
      grind
  · intro b c base top hb hm
    have out : ∀ b1 base1 top1, mu b1 = .blk c base1 top1 → b1 < ha.n → mu1 b1 = .dead → w0.heap.size ≤ c ∨ ∃ b0 base0 top0, b0 < h0.n ∧ mu0 b0 = .blk c base0 top0 ∧ mu2 b0 = .dead := by
      intro b1 base1 top1 h1 h2 h3
      by_cases hb1 : b1 < h0.n
      · rcases W.old b1 hb1 with x | ⟨_, x⟩
        · grind
        grind
      · rcases W.fresh b1 c base1 top1 (by omega) h1 with x | ⟨b0, base0, top0, y1, y2, y3⟩
        · exact .inl x
        grind
    have keep : mu b = .blk c base top → w0.heap.size ≤ c ∨ ∃ b0 base0 top0, b0 < h0.n ∧ mu0 b0 = .blk c base0 top0 ∧ mu2 b0 = .dead := by
      intro hmb
      rcases W.fresh b c base top hb hmb with x | ⟨b0, base0, top0, y1, y2, y3⟩
      · exact .inl x
      grind
    by_cases hbb : b < hz.n
    · rw [lo2 b hbb] at hm
      by_cases hba : b < ha.n
      · rcases e.old b hba with x | ⟨_, x⟩
        · rw [x, cut_lt hba] at hm; grind
        grind
      · rcases e.fresh b c base top (by omega) hm with x | ⟨b1, base1, top1, y1, y2, y3⟩
        · exact .inl (Nat.le_trans W.wsize x)
        grind[cut_lt]
    grind
  · intro c hc hn0
    rw [← W.frame c hc hn0]
    exact e.frame c (by have := W.wsize; omega) (hno c hc hn0)
  · intro b c base top t sz el hm hg
    have hb := lt0 b (by grind)
    obtain ⟨r1, r2⟩ := W.ro b c base top t sz el hm hg
    obtain ⟨s1, _, s3⟩ := e.ro b c base top t sz el (by rw [cut_lt (by omega), r2]; exact hm) (hro b c base top t sz el hm hg)
    grind[cut_lt]
end Go.Ab

/- Drawn orders: the invariant. -/
namespace Go.Ab

section
variable (E : Env) (ops : Array Oper) (q : Nat) (L : Nat → Loc) (H : Nat → Hp) (X : Nat → Bool) (nr : Nat) (mu0 : Mu) (w0 : World)

def AtC (S : Nat → Bool) (c : Nat) : Prop := c ≤ ops.size ∧ (c = ops.size ∨ ∃ o, ops[c]? = some o ∧ isW E X q o c ∧ S c = false) ∧ ∀ (i : Nat) o, i < c → ops[i]? = some o → isW E X q o i → S i = true
def RegsAt (S : Nat → Bool) (mu : Mu) (tmps : Array Value) : Prop := ∀ (i : Nat), i ≤ ops.size → ∀ (t : Tmp) v, (∀ (p : Nat) (o : Oper), ops[p]? = some o → o.dst = some t → (p < i ↔ S p = true)) →
  (L i).regs.get t = some v → ∃ v', tmps[t]? = some v' ∧ VRel mu v v'
structure Inv (S : Nat → Bool) (mu : Mu) (w : World) (tmps : Array Value) : Prop where
  c : ∃ c, AtC E ops q X S c ∧ HRel mu (H c) w
  glob : Glob mu
  non : ∀ p, p < ops.size → S p = false → ∀ b, (H p).n ≤ b → b < (H (p + 1)).n → mu b = .none
  size : tmps.size = nr
  regs : RegsAt ops L S mu tmps
  ext : WExt mu0 (H 0) w0 mu w
  cov : ∀ p, p < ops.size → S p = true → ∀ b, (H p).n ≤ b → b < (H (p + 1)).n → mu b ≠ .none
end

def addS (S : Nat → Bool) (p : Nat) : Nat → Bool := fun i => if i = p then true else S i
theorem addS_same (S : Nat → Bool) (p : Nat) : addS S p p = true := by simp [addS]
theorem addS_other (S : Nat → Bool) {p i : Nat} (h : i ≠ p) : addS S p i = S i := by simp [addS, h]

section
variable {E : Env} {R : Rec} {ops : Array Oper} {q : Nat} {ps : List (Nat × Nat)} {M : List Nat} {L : Nat → Loc} {H : Nat → Hp} {T : Nat → Option Nat} {X : Nat → Bool} (D : DT E R ops q ps M L H T X)

theorem put_regs_other {l : Loc} {d : Option Tmp} {v : Value} {t : Tmp} (h : d ≠ some t) : (l.put d v).regs.get t = l.regs.get t := by
  cases d with
  | none => rfl
  | some d =>
    show (l.regs.set d v).get t = _
    simp_all[Tr.get_set,if_neg]
include D in
theorem regs_other {j : Nat} {o : Oper} (ho : ops[j]? = some o) {t : Tmp} (h : o.dst ≠ some t) : (L (j + 1)).regs.get t = (L j).regs.get t := by
  have hs := D.step j o ho
  generalize L (j + 1) = L1 at hs
  generalize H (j + 1) = H1 at hs
  generalize T j = T1 at hs
  generalize X j = X1 at hs
  cases hs with
  | skip hg => exact put_regs_other h
  | exec hg hst => exact put_regs_other h

include D in
theorem regs_step {S : Nat → Bool} {mu mu2 : Mu} {tmps : Array Value} {nr : Nat} (hd : Down ops S) {p : Nat} {o : Oper} (ho : ops[p]? = some o) (hr : Ready o S) (hp : S p = false) (le : Le mu mu2) (hsz : tmps.size = nr) (hsd : (L p).regs.Sized nr)
    {v v' : Value} (hv : VRel mu2 v v') (hL : L (p + 1) = (L p).put o.dst v) (hregs : RegsAt ops L S mu tmps) : RegsAt ops L (addS S p) mu2 (putC tmps o.dst v') := by
  intro i hi t u hcond hu
  by_cases ht : o.dst = some t
  · have hpi : p < i := (hcond p o ho ht).2 (addS_same S p)
    have hnames : t ∈ namesOf ops.toList o := by unfold namesOf; rw [ht]; simp
    have hnc := names_cond D hd ho hr hp hnames
    have hwalk : (L i).regs.get t = (L (p + 1)).regs.get t := by
      have := walk_eq (fun j => (L j).regs.get t) (a := p + 1) (i - (p + 1)) (fun j h1 h2 => by
        have hj : j < i := by omega
        grind[Array.getElem?_eq_getElem,addS_other,regs_other])
      grind
    rw [hwalk, hL, ht] at hu
    have hu' : ((L p).regs.set t v).get t = some u := hu
    rw [Tr.get_set] at hu'
    cases hg : (L p).regs.get t with
    | none => grind
    | some u0 =>
      rw [hg] at hu'
      simp at hu'
      subst hu'
      have : t < tmps.size := by rw [hsz]; exact (hsd t).1 (by rw [hg]; rfl)
      grind[putC]
  · obtain ⟨u', h1, h2⟩ := hregs i hi t u (fun j oj hoj hdj => by
      grind[addS_other]) hu
    refine ⟨u', ?_, h2.mono le⟩
    cases hdd : o.dst with
    | none => exact h1
    | some d =>
      show (tmps.setIfInBounds d v')[t]? = _
      grind

theorem putC_size (tmps : Array Value) (d : Option Tmp) (v : Value) : (putC tmps d v).size = tmps.size := by cases d <;> simp [putC]
end
end Go.Ab

/- Drawn orders: one operation. -/
namespace Go.Ab

theorem next_W {E : Env} {ops : Array Oper} {q : Nat} {X : Nat → Bool} : ∀ (d c : Nat), c + d = ops.size → ∃ c', c ≤ c' ∧ c' ≤ ops.size ∧ (c' = ops.size ∨ ∃ o, ops[c']? = some o ∧ isW E X q o c') ∧ ∀ i o, c ≤ i → i < c' → ops[i]? = some o → ¬ isW E X q o i
  | 0, c, h => ⟨c, Nat.le_refl _, by omega, .inl (by omega), fun i o h1 h2 => by omega⟩
  | d + 1, c, h => by
    obtain ⟨oc, ho⟩ : ∃ oc, ops[c]? = some oc := ⟨_, Array.getElem?_eq_getElem (xs := ops) (i := c) (by omega)⟩
    by_cases hw : isW E X q oc c
    · exact ⟨c, Nat.le_refl _, by omega, .inr ⟨_, ho, hw⟩, fun i o h1 h2 => by omega⟩
    · obtain ⟨c', h1, h2, h3, h4⟩ := next_W (E := E) (ops := ops) (q := q) (X := X) d (c + 1) (by omega)
      grind

section
variable {E : Env} {P : Program} (ok : EOk E P) {R : Rec} (hc : CallOk E P R.call) (hcode : CodeOk P R.code)
variable {ops : Array Oper} {q : Nat} {ps : List (Nat × Nat)} {M : List Nat} {L : Nat → Loc} {H : Nat → Hp} {T : Nat → Option Nat} {X : Nat → Bool} (D : DT E R ops q ps M L H T X)
variable {nr : Nat} {mu0 : Mu} {w0 : World}

include D in
/-- The map that a writer writes was made behind number i. -/
theorem mapArg_new (turn : ∀ j o, j < ops.size → ops[j]? = some o → Turn ops E X q H T j o) {n i : Nat} {o : Oper} (ho : ops[n]? = some o) (h2 : cls E o.op = 2) (hm : mapNew ops.toList o n i = true) {b : Nat} (hb : touch ((L n).evD (tmpsOf o.op.operands.toList)) o.op = some b) : (H (i + 1)).n ≤ b := by
  have hn := (Array.getElem?_eq_some_iff.1 ho).1
  unfold mapNew at hm
  cases ha : mapArg o.op with
  | none => grind
  | some t =>
    rw [ha] at hm
    simp only [List.any_eq_true, List.mem_range, Bool.and_eq_true, List.all_eq_true, Bool.or_eq_true, Bool.not_eq_true'] at hm
    obtain ⟨k, hk, hik, hat, hall⟩ := hm
    have hik : i < k := by simp_all
    have hok : ops[k]? = some ops[k] := Array.getElem?_eq_getElem (by omega)
    unfold atIs at hat
    rw [Array.getElem?_toList, hok] at hat
    simp only [Bool.and_eq_true] at hat
    have dst : ∀ {p : Oper}, dstIs t p = true → p.dst = some t := by
      grind[dstIs,Nat.eq_of_beq_eq_true]
    have hdk := dst hat.2
    -- what the temporary holds at n
    have hwalk : (L n).regs.get t = (L (k + 1)).regs.get t := by
      have := walk_eq (fun j => (L j).regs.get t) (a := k + 1) (n - (k + 1)) (fun j h1 h2 => by
        have hoj : ops[j]? = some ops[j] := Array.getElem?_eq_getElem (by omega)
        refine regs_other D hoj fun hd => ?_
        rcases hall j (by omega) with x | x
        · have := Nat.le_of_ble_eq_true x; omega
        grind[atIs,dstIs,Nat.beq_refl])
      grind
    -- what the touched block is
    have ht : touch ((L n).evD (tmpsOf o.op.operands.toList)) o.op = some b → (L n).ev (.tmp t) = .map (some b) := by
      intro h
      have hmem : ∀ (ts : List Tmp) (v : Value), (L n).evD ts (.tmp t) = .map (some b) → (L n).ev (.tmp t) = .map (some b) := by
        intro ts v h
        unfold Loc.evD at h
        cases hmb : memb t ts with
        | true => grind
        | false => simp only [hmb, cond_false] at h; cases h
      cases hop : o.op <;> rw [hop] at ha <;> (try (cases ha; done))
      all_goals
        rename_i ty m kk vv
        cases m <;> (try (cases ha; done))
        cases ha
        rw [hop] at h
        unfold touch at h
        simp only [] at h
        split at h
        next r hr => subst h; exact hmem _ .nilIface hr
        next => cases h
    have hev := ht hb
    have hs := D.step k ops[k] hok
    generalize hL : L (k + 1) = L1 at hs
    generalize hH : H (k + 1) = H1 at hs
    generalize T k = T1 at hs
    generalize hX : X k = X1 at hs
    have hput : ∀ v, L1 = (L k).put ops[k].dst v → ∀ b, (L n).ev (.tmp t) = .map (some b) → v = .map (some b) := by
      grind[Loc.ev,Loc.put,Tr.get_set]
    cases hs with
    | skip hg => grind
    | exec hg hst =>
      rename_i v
      have hv := hput _ rfl b hev
      subst hv
      have hmk := hat.1
      have h4 : cls E ops[k].op = 4 := by
        unfold isMk at hmk
        split at hmk
        · next h => rw [h]; rfl
        · cases hmk
      have hq := hush_quiet (q := q) (i := k) (op := ops[k].op) (E := E) (by omega) (D.four k _ hok h4)
      rw [hq] at hst
      have hle := n_mono turn (show i + 1 ≤ k from hik) (by omega)
      have hval : ∀ (h : Hp) (nx : ANext) (h' : Hp), aop E ((L k).evD (tmpsOf ops[k].op.operands.toList)) h ops[k].op = some (nx, h') → nx = .val (.map (some h.n)) := by
        intro h nx h' he
        unfold isMk at hmk
        split at hmk
        · next ty sz hop =>
          rw [hop] at he
          cases sz <;> cases he
          rfl
        · cases hmk
      unfold stepD at hst
      simp only [cond_true] at hst
      cases ha2 : aop E ((L k).evD (tmpsOf ops[k].op.operands.toList)) { H k with lo := (H k).n } ops[k].op with
      | none => rw [ha2] at hst; cases hst
      | some r =>
        obtain ⟨nx, h'⟩ := r
        have e := hval _ _ _ ha2
        subst e
        rw [ha2] at hst
        simp only [opVal] at hst
        grind
include D in
/-- A writer of such a map leaves what is older. -/
theorem wr_new (sized : ∀ j, j ≤ ops.size → (H j).t.Sized (H j).n) (turn : ∀ j o, j < ops.size → ops[j]? = some o → Turn ops E X q H T j o) {n i : Nat} {o : Oper} (ho : ops[n]? = some o) (hw : isW E X q o n) (h2 : cls E o.op = 2) (hm : mapNew ops.toList o n i = true) (hin : i < n) {b : Nat} (hb : b < (H (i + 1)).n) : (H (n + 1)).get b = (H n).get b := by
  have hn := (Array.getElem?_eq_some_iff.1 ho).1
  have key := fun b => mapArg_new D turn ho h2 hm (b := b)
  have hs := D.step n o ho
  generalize L (n + 1) = L1 at hs
  generalize hH : H (n + 1) = H1 at hs
  generalize T n = T1 at hs
  generalize hX : X n = X1 at hs
  cases hs with
  | skip hg => rfl
  | exec hg hst =>
    rw [hush_w hw] at hst
    obtain ⟨nx, ha⟩ := stepD_w (.inl h2) hst
    have hle := n_mono turn (show i + 1 ≤ n from hin) (by omega)
    grind[w_only]

/-- Between writers the heap's blocks stand. -/
theorem stand (turn : ∀ j o, j < ops.size → ops[j]? = some o → Turn ops E X q H T j o) {a c : Nat} (hac : a ≤ c) (hcn : c ≤ ops.size)
    (hno : ∀ j o, a ≤ j → j < c → ops[j]? = some o → isR E X o j ∨ isQ E X q o j ∨ ∀ b, b < (H a).n → (H (j + 1)).get b = (H j).get b) {b : Nat} (hb : b < (H a).n) : (H c).get b = (H a).get b := by
  have := walk_eq (fun j => (H j).get b) (a := a) (c - a) (fun j h1 h2 => by
    have hoj : ops[j]? = some ops[j] := Array.getElem?_eq_getElem (by omega)
    have tj := turn j _ (by omega) hoj
    rcases hno j _ h1 (by omega) hoj with h | h | h
    rotate_right
    · exact h b hb
    · show (H (j + 1)).get b = (H j).get b
      rw [tj.still h]
    · exact tj.quiet h b (Nat.lt_of_lt_of_le hb (n_mono turn h1 (by omega))))
  grind

include D in
theorem after_c {S : Nat → Bool} (hd : Down ops S) {c : Nat} (hC : AtC E ops q X S c) {i : Nat} {o : Oper} (hi : c ≤ i) (ho : ops[i]? = some o) (hw : isW E X q o i ∨ isQ E X q o i) (hcq : isQ E X q o i → c ≠ i) : S i = false := by
  have hin := (Array.getElem?_eq_some_iff.1 ho).1
  rcases hC.2.1 with e | ⟨oc, hoc, hwc, hsc⟩
  · omega
  · by_cases hci : c = i
    · grind
    · cases hs : S i with
      | false => rfl
      | true =>
        obtain ⟨m, hm⟩ := mask D ho
        have := down_bit D hd i o m c ho hm hs (cmp D ho hm (by omega) hoc ⟨hwc, hw⟩)
        grind

include D in
/-- A read sees at c what it saw in text order. -/
theorem read_at (turn : ∀ j o, j < ops.size → ops[j]? = some o → Turn ops E X q H T j o) (sized : ∀ j, j ≤ ops.size → (H j).t.Sized (H j).n) {S : Nat → Bool} (hd : Down ops S) {c : Nat} (hC : AtC E ops q X S c)
    {p : Nat} {o : Oper} (ho : ops[p]? = some o) (hr : Ready o S) (hp : S p = false) (hcls : cls E o.op ≤ 1) {ρ : Operand → Value} (hT : T p = touch ρ o.op)
    (hlt1 : ∀ b, touch ρ o.op = some b → b < (H p).n) (hlt2 : ∀ b, touch ρ o.op = some b → b < (H c).n)
    {f : Hp → Option Value} (f1 : ∀ h, aop E ρ h o.op = wrapR h (f h)) (f2 : cls E o.op = 0 → ∀ h h2, f h = f h2) (f3 : ∀ h h2, (∀ b, touch ρ o.op = some b → h2.get b = h.get b) → f h = f h2) :
    f (H c) = f (H p) := by
  have hpn := (Array.getElem?_eq_some_iff.1 ho).1
  have hcn := hC.1
  have one : ∀ j, j < ops.size → (∀ b, touch ρ o.op = some b → b < (H j).n) → (∀ oj, ops[j]? = some oj → isW E X q oj j → (p < j ∧ S j = true) ∨ (j < p ∧ S j = false)) → f (H (j + 1)) = f (H j) := by
    intro j hj hlt hWj
    have hoj : ops[j]? = some ops[j] := Array.getElem?_eq_getElem hj
    have tj := turn j _ hj hoj
    rcases kinds D hoj with h | h | h
    · rw [tj.still h]
    · exact (f3 _ _ fun b hb => tj.quiet h b (hlt b hb)).symm
    · refine w_leaves D sized ho hoj h hcls hT ?_ hlt f1 f2 f3
      rcases hWj _ hoj h with ⟨h1, h2⟩ | ⟨h1, h2⟩
      · obtain ⟨m, hm⟩ := mask D hoj
        refine .inl ⟨h1, D.owe j _ m p o hoj hm h1 ho ?_⟩
        grind[down_bit]
      · obtain ⟨m, hm⟩ := mask D ho
        refine .inr ⟨h1, D.owe p o m j _ ho hm h1 hoj ?_⟩
        grind[ready_bit]
  rcases Nat.le_total p c with hpc | hpc
  · have := walk_eq (fun j => f (H j)) (a := p) (c - p) (fun j h1 h2 => one j (by omega) (fun b hb => Nat.lt_of_lt_of_le (hlt1 b hb) (n_mono turn h1 (by omega))) (fun oj hoj hw => by
      have hjp : p ≠ j := by intro e; subst e; rw [ho] at hoj; cases hoj; rcases hw.2 with x | ⟨x, _⟩ <;> omega
      exact .inl ⟨by omega, hC.2.2 j oj (by omega) hoj hw⟩))
    simp_all
  · have := walk_eq (fun j => f (H j)) (a := c) (p - c) (fun j h1 h2 => one j (by omega) (fun b hb => Nat.lt_of_lt_of_le (hlt2 b hb) (n_mono turn h1 (by omega))) (fun oj hoj hw =>
      .inr ⟨by omega, after_c D hd hC h1 hoj (.inl hw) (fun hq => by
        intro _; have := hw.2; have := hq.2.2; rcases hw.2 with x | ⟨_, x⟩
        · have := hq.2.1; omega
        grind)⟩))
    simp_all
end
end Go.Ab
