/- From the program's code to ours. · New blocks: what is made hangs on no state. · Calls; an operation's run. · Operations one behind the other. · A region in its text's order. -/
import Derived.Test.YtneabigkdcbddaaGreatDoorA6
import Derived.Orders
set_option linter.unusedVariables false
set_option linter.unusedSimpArgs false
set_option linter.unusedSectionVars false
set_option linter.unnecessarySimpa false
namespace Ax
open Go
section
variable (P : Program) (G N : Nat)
def okTmp (d : Nat) : Bool := match Nat.ble 4096 d with | true => false | false => Nat.ble (Nat.add d 1) N
def trOper (ops : Array Oper) (o : Oper) : Option IOp :=
  match trOp P G o.op with
  | none => none
  | some k => (match o.guard with
    | none => (match o.dst with
      | some d => (match okTmp N d with | true => some (.r (pth 12 d) k) | false => none)
      | none => some (.n k))
    | some (j, w) => (match o.dst, ops[j]? with
      | some d, some oj => (match oj.dst with
        | some t => (match okTmp N d, okTmp N t with | true, true => some (.g (pth 12 d) (pth 12 t) w k) | _, _ => none)
        | none => none)
      | _, _ => none))
def depsOf (o : Oper) : List Nat := (o.after.toList.filter (Region.binds .any)).map (·.on)
def kOf : IOp → IK | .r _ k => k | .n k => k | .g _ _ _ k => k
def dOf : IOp → Option Pth | .r d _ => some d | .n _ => none | .g d _ _ _ => some d
def gOf : IOp → List IArg | .g _ t _ _ => [.t t] | _ => []
def pEq : Pth → Pth → Bool
  | .e, .e => true | .z a, .z b => pEq a b | .o a, .o b => pEq a b | _, _ => false
def reads (p : Pth) : List IArg → Bool
  | [] => false
  | .t q :: l => (match pEq p q with | true => true | false => reads p l)
  | .c _ :: l => reads p l
def lmem (n : Nat) : List Nat → Bool | [] => false | a :: l => (match Nat.beq n a with | true => true | false => lmem n l)
def lnthL {α : Type} : List α → Nat → Option α | [], _ => none | a :: l, n => (match Nat.beq n 0 with | true => some a | false => lnthL l (Nat.sub n 1))
/-- all that comes before, by its number -/
def ancOf (acc : List (List Nat)) : List Nat → List Nat
  | [] => []
  | d :: ds => d :: ((match lnthL acc d with | some l => l | none => []) ++ ancOf acc ds)
def undup : List Nat → List Nat
  | [] => []
  | a :: l => match lmem a l with | true => undup l | false => a :: undup l
def ancs : List (List Nat) → List (List Nat) → List (List Nat)
  | acc, [] => acc
  | acc, d :: ds => ancs (acc ++ [undup (ancOf acc d)]) ds
def isLightO (o : IOp) : Bool := isLight (kOf o)
def isPureO (o : IOp) : Bool := isPure (kOf o)
def trOpers (ops : Array Oper) : List Oper → Option (List IOp)
  | [] => some []
  | o :: l => match trOper P G N ops o, trOpers ops l with | some i, some r => some (i :: r) | _, _ => none
end
end Ax
namespace Ax
open Go
def isNew : IK → Bool | .alloc _ _ | .box _ _ | .buildSlice _ _ _ _ | .makeSlice _ _ _ _ | .makeMap => true | _ => false
def newOp : Op → Bool | .alloc _ | .box _ _ | .buildSlice _ _ _ | .makeSlice _ _ _ | .makeMap _ _ => true | _ => false
section
variable {P : Program} {G : Nat} {hole : Nat → Prop} {σ : Sig} {s s₁ s' : St} {w : World} {v : AV} {fr : Tr AV} {a : Act} {call : CallT}
/-- what is made: the object, the value by its number, and that the run makes it -/
structure NewAt (P : Program) (hole : Nat → Prop) (σ : Sig) (s : St) (w : World) (k : IK) (call : CallT) (fr : Tr AV) (run : Result Next) (ob : AObj) (f : Nat → AV) : Prop where
  step : ∀ h n wl, n ≤ most → stepK k call fr ⟨h, n, wl⟩ = some (f n, ⟨hset (some ob) bits64 h n, n + 1, wl⟩)
  made : ∃ u obj size, run = .ok (.value u) (w.alloc obj) ∧ ∀ (σ' : Sig) (D' : Dom) (n : Nat), (∀ b, Dom.ok ⟨s.next, hole⟩ b → D'.ok b ∧ σ' b = σ b) → D'.ok n → σ' n = (w.heap.size, 0, size) →
    VR σ' D' (f n) u ∧ ∀ w' : World, w'.heap[w.heap.size]? = some obj → OR σ' D' n w' ob
theorem snew_at {o : AObj} {v : AV} {h : Tr AObj} {n : Nat} {wl : List (Nat × Nat × Nat)} (hn : n ≤ most) : snew ⟨h, n, wl⟩ o v = some (v, ⟨hset (some o) bits64 h n, n + 1, wl⟩) := by
  simp only [snew, ble_iff.2 hn]
theorem snew_le {o : AObj} {v v' : AV} {s s' : St} (h : snew s o v = some (v', s')) : s.next ≤ most ∧ v' = v ∧ s' = ⟨hset (some o) bits64 s.heap s.next, s.next + 1, s.wlog⟩ := by
  cases s
  simp only [snew] at h
  split at h
  · rename_i hb; cases h; exact ⟨ble_iff.1 hb, rfl, rfl⟩
  · cases h
/-- a row of cells that is made -/
theorem new_row {k : IK} {ty : TypeId} {l : List AV} {us pad : List Value} {f : Nat → AV} {u : Value} {run : Result Next} (hs : ∀ h n wl, n ≤ most → stepK k call fr ⟨h, n, wl⟩ = some (f n, ⟨hset (some (.cells ty l)) bits64 h n, n + 1, wl⟩))
    (hv : VRs σ ⟨s.next, hole⟩ l us) (hrun : run = .ok (.value u) (w.alloc (.cells (us ++ pad).toArray ty)))
    (hu : (f = (fun n => .ptr n 0) ∧ u = .pointer (some ⟨w.heap.size, 0, none⟩)) ∨ ∃ len c, f = (fun n => .slc n 0 len (.ex c)) ∧ u = .slice (some ⟨w.heap.size, 0, none⟩) len c) :
    NewAt P hole σ s w k call fr run (.cells ty l) f := by
  refine ⟨hs, u, _, us.length + pad.length, hrun, fun σ' D' n hm hn hσ => ⟨?_, fun w' hw => ?_⟩⟩
  · rcases hu with ⟨rfl, rfl⟩ | ⟨len, c, rfl, rfl⟩
    · simp only [VR]; exact ⟨hn, by simp only [Sig.addr, hσ]⟩
    · simp only [VR]; exact ⟨hn, by simp only [Sig.addr, hσ]⟩
  · refine ⟨(us ++ pad).toArray, (0, 0), by rw [hσ]; exact hw, by rw [hσ]; simp, by omega, us, pad, by rw [hσ]; simp, by rw [hσ]; exact Nat.zero_le _, VRs.mono hm _ _ hv⟩
theorem N_alloc {e : TypeId} {k : IK} (h : trAlloc P e = some k) :
    ∃ ob f, NewAt P hole σ s w k call fr ((do pure (.value (← Instr.alloc e true (.tuple #[]))) : Sem Next).run P w) ob f := by
  unfold trAlloc at h
  split at h <;> try (cases h; done)
  rename_i l hl
  cases h
  obtain ⟨i, z, hi, hz, hv⟩ := zeroOf_ok hl
  exact ⟨_, _, new_row (ty := e) (l := l) (us := z.cells.toList) (pad := []) (f := fun n => .ptr n 0) (fun h n wl hn => (by show snew ⟨h, n, wl⟩ _ _ = _; exact snew_at hn)) (hv σ _) (by simp only [Sem.run_bind, run_alloc hi hz, Result.andThen_ok, Sem.run_pure, List.append_nil, Array.toArray_toList]) (.inl ⟨rfl, rfl⟩)⟩
theorem N_box (hr : Rep G hole σ s w) (hg : ∀ g, g < G → ¬ hole g) (hf : FR σ ⟨s.next, hole⟩ fr a.tmps) {e : TypeId} {x : Operand} {k : IK} (h : m1 (ta G x) (.box e) = some k) :
    ∃ ob f, NewAt P hole σ s w k call fr ((do pure (.value (← Instr.box e (a.eval x))) : Sem Next).run P w) ob f := by
  obtain ⟨i, hi, rfl⟩ := m1_ok h
  exact ⟨_, _, new_row (ty := e) (l := cellsOf (ev fr i)) (us := (a.eval x).cells.toList) (pad := []) (f := fun n => .ptr n 0) (fun h n wl hn => (by show snew ⟨h, n, wl⟩ _ _ = _; exact snew_at hn)) (cells_ok (ta_ok hr hg hf hi)) (by simp only [Sem.run_bind, run_box, Result.andThen_ok, Sem.run_pure, List.append_nil, Array.toArray_toList]) (.inl ⟨rfl, rfl⟩)⟩
theorem N_makeMap {t : TypeId} {r : Option Operand} {k : IK} (h : trMakeMap P t r = some k) :
    ∃ ob f, NewAt P hole σ s w k call fr ((do pure (.value (← Instr.makeMap t (r.map a.eval))) : Sem Next).run P w) ob f := by
  have hkk : k = .makeMap := by
    unfold trMakeMap at h
    split at h
    · cases h; rfl
    · split at h <;> cases h; rfl
    · cases h
  subst hkk
  have hrun : (Instr.makeMap t (r.map a.eval)).run P w = .ok (.map (some w.heap.size)) (w.alloc (.map #[] 0)) := by
    unfold trMakeMap at h
    split at h
    · rfl
    · split at h <;> try (cases h; done)
      rename_i hu
      simp only [Instr.makeMap, Option.map_some, Sem.run_bind, run_und hu, Result.andThen_ok, Act.eval, asInt, asIntOf, Sem.run_pure]
      rfl
    · cases h
  refine ⟨.amap [] 0, fun n => .map n, fun h n wl hn => snew_at hn, .map (some w.heap.size), .map #[] 0, 0, by rw [Sem.run_bind, hrun]; rfl, fun σ' D' n hm hn hσ => ⟨?_, fun w' hw => ?_⟩⟩
  · simp only [VR]; exact ⟨hn, by rw [hσ]⟩
  · exact ⟨#[], by rw [hσ]; exact hw, by simp [ER]⟩
theorem N_buildSlice (hr : Rep G hole σ s w) (hg : ∀ g, g < G → ¬ hole g) (hf : FR σ ⟨s.next, hole⟩ fr a.tmps) {t : TypeId} {len : Nat} {parts : Array (Nat × Operand)} {k : IK} (h : trBuildSlice P G t len parts.toList = some k) (hk : stepK k call fr s₁ = some (v, s')) :
    ∃ ob f, NewAt P hole σ s w k call fr ((do pure (.value (← Instr.buildSlice t len (parts.map fun (i, x) => (i, a.eval x)))) : Sem Next).run P w) ob f := by
  have hmap : (parts.map fun (i, x) => (i, a.eval x)).toList = parts.toList.map fun x => (x.1, a.eval x.2) := by simp
  unfold trBuildSlice at h
  split at h
  · rename_i e hu
    split at h
    · rename_i n z hsz hz
      split at h
      · rename_i ps hps hzl hsmall hn0
        cases h
        have hk' : doBuildSlice s₁ fr e (lrep len z) len ps = some (v, s') := hk
        unfold doBuildSlice at hk'
        split at hk'
        · rename_i l hl
          obtain ⟨ti, hti, hts⟩ := sizeO_ok hsz
          obtain ⟨ti', zv, hti', hzv, hzr⟩ := zeroOf_ok hz
          rw [hti] at hti'; cases hti'
          have hn : n ≠ 0 := beq_false_iff.1 hn0
          have hzn : zv.cells.size = n := by
            have h1 := VRs_len (hzr σ ⟨s.next, hole⟩)
            rw [llen_eq] at hzl
            have h2 := beq_iff.1 hzl
            simpa [h2] using h1
          have hrow := VRs_rep (hzr σ ⟨s.next, hole⟩) len
          have hrows := rows_eq zv.cells (by omega) len
          rw [hzn] at hrows
          obtain ⟨cells, r1, r2, r3⟩ := fills_ok (place' := fun i => some (i * n, n)) hr hg hf (fun i x hx => hx) parts.toList ps (lrep len z) l ((Array.range (len * n)).map (zv.cells[· % n]!)) hps hl (by rw [hrows]; exact hrow)
          refine ⟨_, _, new_row (ty := e) (l := l) (us := cells.toList) (pad := []) (u := .slice (some ⟨w.heap.size, 0, none⟩) len len) (f := fun n => .slc n 0 len (.ex len)) (fun h n wl hn => ?_) r2 ?_ (.inr ⟨_, _, rfl, rfl⟩)⟩
          · show doBuildSlice ⟨h, n, wl⟩ fr e (lrep len z) len ps = _
            simp only [doBuildSlice, hl]; exact snew_at hn
          · rw [List.append_nil, Array.toArray_toList]
            have hle : ¬ (len * n > 2 ^ 24) := by have := ble_iff.1 hsmall; omega
            by_cases hz0 : len * n = 0
            · have e0 : (Array.range (len * n)).map (zv.cells[· % n]!) = #[] := by rw [hz0]; simp
              rw [e0] at r1
              simp only [Sem.run_bind, Instr.buildSlice, run_und hu, Result.andThen_ok, run_size hti, hts, Sem.run_ite, hz0, if_true, Sem.run_pure]
              have e1 : (Array.range 0).map ((#[] : Array Value)[· % (#[] : Array Value).size]!) = #[] := by simp
              rw [e1, hmap, r1]
              simp only [Sem.run_bind, run_newRow, Result.andThen_ok, Sem.run_pure]
              rw [if_neg (by decide)]; rfl
            · simp only [Sem.run_bind, Instr.buildSlice, run_und hu, Result.andThen_ok, run_size hti, hts, Sem.run_ite, hle, if_false, hz0, run_zero hti hzv, Sem.run_pure, hzn]
              rw [hmap, r1]
              simp only [Sem.run_bind, run_newRow, Result.andThen_ok, Sem.run_pure]
        · cases hk'
      · cases h
    · cases h
  · cases h
theorem N_makeSlice (hr : Rep G hole σ s w) (hg : ∀ g, g < G → ¬ hole g) (hf : FR σ ⟨s.next, hole⟩ fr a.tmps) {t : TypeId} {x y : Operand} {k : IK} (h : trMakeSlice P G t x y = some k) (hk : stepK k call fr s₁ = some (v, s')) :
    ∃ ob f, NewAt P hole σ s w k call fr ((do pure (.value (← Instr.makeSlice t (a.eval x) (a.eval y))) : Sem Next).run P w) ob f := by
  unfold trMakeSlice at h
  split at h
  · rename_i e hu
    split at h
    · rename_i ti z hti hz
      split at h
      · rename_i hb hzl hn0
        obtain ⟨i, j, hi, hj, rfl⟩ := m2_ok h
        have hk' : doMakeSlice s₁ e z (ev fr i) (ev fr j) = some (v, s') := hk
        have hvi := ta_ok hr hg hf hi
        have hvj := ta_ok hr hg hf hj
        unfold doMakeSlice at hk'
        split at hk'
        · rename_i k1 l heq1
          split at hk'
          · rename_i k2 c heq2
            split at hk'
            · rename_i hlc hcb
              rw [heq1] at hvi; rw [heq2] at hvj
              have el := VR_int.1 hvi
              have ec := VR_int.1 hvj
              have hlc' := ble_iff.1 hlc
              have hcb' := ble_iff.1 hcb
              have hbytes := ble_iff.1 hb
              have hn : ti.size ≠ 0 := beq_false_iff.1 hn0
              obtain ⟨ti', zv, hti', hzv, hzr⟩ := zeroOf_ok hz
              rw [hti] at hti'; cases hti'
              have hzn : zv.cells.size = ti.size := by
                have h1 := VRs_len (hzr σ ⟨s.next, hole⟩)
                rw [llen_eq] at hzl
                have h2 := beq_iff.1 hzl
                simpa [h2] using h1
              have hrow := VRs_rep (hzr σ ⟨s.next, hole⟩) c
              have hrows := rows_eq zv.cells (by omega) c
              have htl : ∀ n : Nat, n ≤ big → (decide ((n : Int) < 0) || decide ((ti.bytes : Int) * (n : Int) > 2 ^ 48)) = false := by
                intro n hn'
                have h1 : ti.bytes * n ≤ 1099511627776 := Nat.le_trans (Nat.mul_le_mul hbytes hn') (by decide)
                have h2 : (ti.bytes : Int) * (n : Int) ≤ 1099511627776 := by rw [← Int.natCast_mul]; omega
                simp; omega
              have wl : IntKind.i64.wrap (Int.ofNat l) = (l : Int) := wrap_small l (Nat.le_trans hlc' hcb')
              have wc : IntKind.i64.wrap (Int.ofNat c) = (c : Int) := wrap_small c hcb'
              have run : ∀ cells : Array Value, cells.toList = (List.replicate c zv.cells.toList).flatten → (Instr.makeSlice t (a.eval x) (a.eval y)).run P w = .ok (.slice (some ⟨w.heap.size, 0, none⟩) l c) (w.alloc (.cells cells e)) := by
                intro cells hcells
                rw [el, ec]
                simp only [Instr.makeSlice, Sem.run_bind, run_und hu, Result.andThen_ok, asInt, asIntOf, Sem.run_pure, run_info hti, wl, wc]
                have c1 : ((decide ((c : Int) < 0) || decide ((ti.bytes : Int) * (c : Int) > 2 ^ 48)) || decide ((l : Int) < 0) || decide ((l : Int) > (c : Int))) = false := by
                  rw [htl c hcb']; simp; omega
                have c2 : ¬ ((((decide ((c : Int) < 0) || decide ((ti.bytes : Int) * (c : Int) > 2 ^ 48)) || decide ((l : Int) < 0) || decide ((l : Int) > (c : Int))) = true)) := by rw [c1]; simp
                simp only [Sem.run_ite, if_neg c2, Sem.run_bind, run_askRoom, Result.andThen_ok, run_size hti, Int.toNat_natCast]
                by_cases hz0 : c * ti.size = 0
                · simp only [hz0, if_true, Sem.run_pure, Result.andThen_ok, run_newRow]
                  have hc0 : c = 0 := by rcases Nat.mul_eq_zero.1 hz0 with h | h; exact h; exact absurd h hn
                  have : cells = #[] := by
                    apply Array.ext'
                    rw [hcells, hc0]; rfl
                  have e1 : (Array.range 0).map ((#[] : Array Value)[· % (#[] : Array Value).size]!) = #[] := by simp
                  rw [this, e1]
                · simp only [hz0, if_false, run_zero hti hzv, Sem.run_pure, Result.andThen_ok, run_newRow]
                  have : cells = (Array.range (c * ti.size)).map (zv.cells[· % zv.cells.size]!) := by
                    apply Array.ext'
                    rw [hcells, ← hrows, hzn]
                  rw [this]
              have hvr : VRs σ ⟨s.next, hole⟩ (lrep c z) ((List.replicate c zv.cells.toList).flatten) := hrow
              refine ⟨_, _, new_row (ty := e) (l := lrep c z) (us := (List.replicate c zv.cells.toList).flatten) (pad := []) (u := .slice (some ⟨w.heap.size, 0, none⟩) l c) (f := fun n => .slc n 0 l (.ex c)) (fun h n wl hn => ?_) hvr ?_ (.inr ⟨_, _, rfl, rfl⟩)⟩
              · show doMakeSlice ⟨h, n, wl⟩ e z (ev fr i) (ev fr j) = _
                rw [heq1, heq2]
                simp only [doMakeSlice, hlc, hcb]; exact snew_at hn
              · rw [Sem.run_bind, run _ rfl, List.append_nil]; rfl
            · cases hk'
          · cases hk'
        · cases hk'
      · cases h
    · cases h
  · cases h
theorem N_op (hr : Rep G hole σ s w) (hg : ∀ g, g < G → ¬ hole g) (hf : FR σ ⟨s.next, hole⟩ fr a.tmps) {o : Oper} {k : IK} (h : trOp P G o.op = some k) (hn : newOp o.op = true) (hk : stepK k call fr s₁ = some (v, s')) :
    ∃ ob f, NewAt P hole σ s w k call fr ((execOp a.eval o).run P w) ob f := by
  obtain ⟨dst, op, type, pos, after, guard⟩ := o
  dsimp only at h hn
  cases op <;> first | (cases hn; done) | skip
  · exact N_alloc h
  · exact N_box hr hg hf h
  · exact N_buildSlice hr hg hf h hk
  · exact N_makeMap h
  · exact N_makeSlice hr hg hf h hk
end
end Ax
namespace Ax
open Go
/-- what is so behind a run that gave u -/
def After (G : Nat) (hole : Nat → Prop) (σ : Sig) (s : St) (w : World) (v : AV) (s' : St) (u : Value) (w' : World) : Prop :=
  ∃ σ' log, VR σ' ⟨s'.next, hole⟩ v u ∧ s'.wlog = log ++ s.wlog ∧ Post G hole σ s w log σ' s' w'
def Enters (P : Program) (f : FuncId) (us : Array Value) (w : World) (R : Value → World → Prop) : Prop :=
  ((callFunc f us).run P w = .ok (.enter f us) w ∧ Calls P f us w (fun e w' => ∃ u, e = .returned u ∧ R u w')) ∨ ∃ u w', (callFunc f us).run P w = .ok (.value u) w' ∧ R u w'
def CallOk (P : Program) (G : Nat) (call : CallT) : Prop :=
  ∀ (f : Nat) (args : List AV) (s : St) (v : AV) (s' : St), call f args s = some (v, s') → ∀ (hole : Nat → Prop) (σ : Sig) (w : World) (us : Array Value),
    Rep G hole σ s w → (∀ g, g < G → ¬ hole g) → VRs σ ⟨s.next, hole⟩ args us.toList → Enters P f us w (After G hole σ s w v s')
section
variable {P : Program} {G : Nat} {hole : Nat → Prop} {σ : Sig} {s s' : St} {w : World} {v : AV} {fr : Tr AV} {a : Act} {call : CallT}
theorem Does.run {o : Oper} (h : Does G hole σ s w v s' ((execOp a.eval o).run P w)) {next : Act → World → Prop} {Q : Exit → Act → World → Prop}
    (hn : ∀ u w', After G hole σ s w v s' u w' → next (a.put o.dst u) w') : o.wp P a w next Q := by
  obtain ⟨u, w', σ', log, h1, h2, h3, h4⟩ := h
  unfold Oper.wp
  rcases h1 with h1 | ⟨h1, rfl⟩
  · rw [h1]; exact hn u w' ⟨σ', log, h2, h3, h4⟩
  · rw [h1]; exact hn undef w' ⟨σ', log, h2, h3, h4⟩
theorem Enters.run {o : Oper} {f : FuncId} {us : Array Value} (he : (execOp a.eval o).run P w = (callFunc f us).run P w) (h : Enters P f us w (After G hole σ s w v s')) {next : Act → World → Prop} {Q : Exit → Act → World → Prop}
    (hn : ∀ u w', After G hole σ s w v s' u w' → next (a.put o.dst u) w') : o.wp P a w next Q := by
  unfold Oper.wp
  rw [he]
  rcases h with ⟨h1, h2⟩ | ⟨u, w', h1, h2⟩
  · rw [h1, Oper.upon_enter]
    refine Calls.mono h2 fun e w' hr => ?_
    obtain ⟨u, rfl, hu⟩ := hr
    exact hn u w' hu
  · rw [h1]; exact hn u w' h2
theorem run_call {o : Oper} {x : Operand} {args : Array Operand} {ts : Array TypeId} {f : FuncId} {vs : Array Value} (ho : o.op = .call { callee := .value x, args := args, argTypes := ts }) (hx : a.eval x = .func (.func f) #[] vs) :
    (execOp a.eval o).run P w = (callFunc f (args.map a.eval ++ vs)).run P w := by
  unfold execOp
  simp only [ho, resolve, hx, Deferred.ofValue, Sem.run_bind, Sem.run_pure, Result.andThen_ok, invoke, Array.empty_append]
theorem run_oper (hc : CallOk P G call) (hr : Rep G hole σ s w) (hg : ∀ g, g < G → ¬ hole g) (hf : FR σ ⟨s.next, hole⟩ fr a.tmps) {o : Oper} {k : IK} (h : trOp P G o.op = some k) (hk : stepK k call fr s = some (v, s'))
    {next : Act → World → Prop} {Q : Exit → Act → World → Prop} (hn : ∀ u w', After G hole σ s w v s' u w' → next (a.put o.dst u) w') : o.wp P a w next Q := by
  cases hcall : isCall o.op with
  | false => exact (S_op hr hg hf h hcall hk (fun h => Nat.lt_irrefl _ (hr.holes _ h))).run hn
  | true =>
    have hh : ∃ x args ts, o.op = .call { callee := .value x, args := args, argTypes := ts } := by
      unfold isCall at hcall
      split at hcall
      · exact ⟨_, _, _, by assumption⟩
      · cases hcall
    obtain ⟨x, args, ts, ho⟩ := hh
    have key : ∀ (i : IArg) (l : List IArg), tas G args.toList = some l → ta G x = some i → doCallV call s (ev fr i) (evs fr l) = some (v, s') → o.wp P a w next Q := by
      intro i l hl hi hk'
      have hvi := ta_ok hr hg hf hi
      have hvl := tas_ok hr hg hf hl
      unfold doCallV at hk'
      split at hk' <;> try (cases hk'; done)
      rename_i f cap heq
      rw [heq] at hvi
      simp only [VR] at hvi
      obtain ⟨vs, hx, hvs⟩ := hvi
      refine Enters.run (run_call ho hx) (hc f _ s v s' hk' hole σ w _ hr hg ?_) hn
      rw [Array.toList_append, Array.toList_map]
      exact VRs_append hvl hvs
    rw [ho] at h
    cases x with
    | func f =>
      simp only [trOp, mkFn] at h
      split at h <;> try (cases h; done)
      rename_i l hl
      cases h
      refine key (.c (.fn f [])) l hl rfl ?_
      have : stepK (.callF f l) call fr s = call f (evs fr l) s := rfl
      rw [this] at hk
      show call f (List.append (evs fr l) []) s = _
      rw [show List.append (evs fr l) [] = evs fr l from List.append_nil _]; exact hk
    | tmp t =>
      simp only [trOp, mkFv] at h
      split at h <;> try (cases h; done)
      rename_i l i hl hi
      cases h
      exact key i l hl hi hk
    | const c =>
      simp only [trOp, mkFv] at h
      split at h <;> try (cases h; done)
      rename_i l i hl hi
      cases h
      exact key i l hl hi hk
    | global g =>
      simp only [trOp, mkFv] at h
      split at h <;> try (cases h; done)
      rename_i l i hl hi
      cases h
      exact key i l hl hi hk
end
end Ax
namespace Ax
open Go
noncomputable section
/-- does the guard let it be? none: not known -/
def wants (fr : Tr AV) (t : Pth) (w : Bool) : Option Bool := match fr.get t with | some (.bool b) => some (match w with | true => b | false => bnot b) | some .any => none | _ => some false
def bindV (r : R) (k : AV → St → Option (Tr AV × St)) : Option (Tr AV × St) := Option.rec (motive := fun _ => Option (Tr AV × St)) none (fun x => Prod.rec (motive := fun _ => Option (Tr AV × St)) k x) r
abbrev OpF := CallT → Tr AV → St → Option (Tr AV × St)
def stepOp : IOp → OpF → OpF := IOp.rec (motive := fun _ => OpF → OpF)
  (fun d k nx call fr s => bindV (stepK k call fr s) (fun v s => nx call (Tr.set v fr d) s))
  (fun k nx call fr s => bindV (stepK k call fr s) (fun _ s => nx call fr s))
  (fun d t w k nx call fr s => Option.rec (motive := fun _ => Option (Tr AV × St)) none (fun b => Bool.rec (motive := fun _ => Option (Tr AV × St)) (nx call (Tr.set unit fr d) s) (bindV (stepK k call fr s) (fun v s => nx call (Tr.set v fr d) s)) b) (wants fr t w))
def stepOps : List IOp → OpF := List.rec (motive := fun _ => OpF) (fun _ fr s => some (fr, s)) (fun o _ ih => stepOp o ih)
/-- the value of an operation -/
def valOp : IOp → CallT → Tr AV → St → R
  | .r _ k, call, fr, s => stepK k call fr s
  | .n k, call, fr, s => stepK k call fr s
  | .g _ t w k, call, fr, s => match wants fr t w with | some true => stepK k call fr s | some false => some (unit, s) | none => none
def setOp : IOp → Tr AV → AV → Tr AV
  | .r d _, fr, v => Tr.set v fr d
  | .n _, fr, _ => fr
  | .g d _ _ _, fr, v => Tr.set v fr d
end
theorem bindV_eq (r : R) (k : AV → St → Option (Tr AV × St)) : bindV r k = (match r with | some (v, s') => k v s' | none => none) := by
  cases r with
  | none => rfl
  | some x => rfl
theorem stepOp_eq (o : IOp) (nx : OpF) (call : CallT) (fr : Tr AV) (s : St) : stepOp o nx call fr s = (match valOp o call fr s with | some (v, s') => nx call (setOp o fr v) s' | none => none) := by
  cases o with
  | r d k =>
    have : stepOp (.r d k) nx call fr s = bindV (stepK k call fr s) (fun v s => nx call (Tr.set v fr d) s) := rfl
    rw [this, bindV_eq]; rfl
  | n k =>
    have : stepOp (.n k) nx call fr s = bindV (stepK k call fr s) (fun _ s => nx call fr s) := rfl
    rw [this, bindV_eq]; rfl
  | g d t w k =>
    cases hw : wants fr t w with
    | none =>
      have : stepOp (.g d t w k) nx call fr s = none := by unfold stepOp; simp only [hw]
      rw [this]; simp only [valOp, hw]
    | some b =>
      cases b with
      | false =>
        have : stepOp (.g d t w k) nx call fr s = nx call (Tr.set unit fr d) s := by unfold stepOp; simp only [hw]
        rw [this]; simp only [valOp, hw]; rfl
      | true =>
        have : stepOp (.g d t w k) nx call fr s = bindV (stepK k call fr s) (fun v s => nx call (Tr.set v fr d) s) := by unfold stepOp; simp only [hw]
        rw [this, bindV_eq]; simp only [valOp, hw]; rfl
theorem stepOps_cons (o : IOp) (l : List IOp) (call : CallT) (fr : Tr AV) (s : St) : stepOps (o :: l) call fr s = (match valOp o call fr s with | some (v, s') => stepOps l call (setOp o fr v) s' | none => none) := stepOp_eq o (stepOps l) call fr s
section
variable {P : Program} {G N : Nat} {hole : Nat → Prop} {σ : Sig} {s s' : St} {w : World} {v : AV} {fr : Tr AV} {a : Act} {call : CallT} {D : Dom}
theorem okTmp_ok {d : Nat} (h : okTmp N d = true) : d < 4096 ∧ d < N := by
  unfold okTmp at h
  split at h
  · cases h
  · rename_i hb
    have h1 := ble_false_iff.1 hb
    have h2 := ble_iff.1 h
    simp only [Nat.add_eq] at h2
    omega
theorem FR.set {tmps : Array Value} (hf : FR σ D fr tmps) {d : Nat} {u : Value} (h1 : d < 4096) (h2 : d < tmps.size) (hv : VR σ D v u) : FR σ D (Tr.set v fr (pth 12 d)) (tmps.setIfInBounds d u) := by
  intro t ht
  simp only [ev, Tr.get_set]
  by_cases e : t = d
  · subst e; simp [h2]; exact hv
  · rw [if_neg (fun h => e (pth_inj 12 t d ht (by omega) h))]
    have := hf t ht
    simp only [ev] at this
    simpa [Array.getElem?_setIfInBounds_ne (Ne.symm e)] using this
theorem FR.mono {σ' : Sig} {D' : Dom} {tmps : Array Value} (hf : FR σ D fr tmps) (h : ∀ b, D.ok b → D'.ok b ∧ σ' b = σ b) : FR σ' D' fr tmps := fun t ht => VR.mono h _ _ (hf t ht)
theorem PostH.mono {hole' : Nat → Prop} {log : List (Nat × Nat × Nat)} {σ' : Sig} {w' : World} (p : PostH G hole hole' σ s w log σ' s' w') : ∀ b, Dom.ok ⟨s.next, hole⟩ b → Dom.ok ⟨s'.next, hole'⟩ b ∧ σ' b = σ b := fun b hb => ⟨p.up b hb, p.ext b hb⟩
theorem wants_ok {t : Nat} {c b : Bool} {tmps : Array Value} (hw : wants fr (pth 12 t) c = some b) (h1 : t < 4096) (h2 : t < tmps.size) (hf : FR σ D fr tmps) : ((match tmps[t]? with | some (.bool x) => some x | _ => none) == some c) = b := by
  have hv := hf t (by omega)
  have hget : tmps[t]? = some (tmps.getD t undef) := by simp [h2]
  rw [hget]
  simp only [ev] at hv
  unfold wants at hw
  generalize tmps.getD t undef = u at hv ⊢
  split at hw
  · rename_i x heq
    rw [heq] at hv
    simp only [VR] at hv
    subst hv
    cases hw
    cases x <;> cases c <;> rfl
  · cases hw
  · rename_i hb hany
    cases hw
    cases hg : fr.get (pth 12 t) with
    | none => rw [hg] at hv; simp only [unit, VR] at hv; obtain ⟨vs, rfl, _⟩ := hv; rfl
    | some y =>
      rw [hg] at hv
      cases y with
      | bool z => exact absurd hg (hb z)
      | any => exact absurd hg hany
      | emp => simp only [VR] at hv; obtain ⟨_, _, rfl⟩ := hv; rfl
      | nil k => cases k <;> (simp only [VR] at hv; subst hv; rfl)
      | slc b o l c => cases c with
        | ex c => simp only [VR] at hv; obtain ⟨_, rfl⟩ := hv; rfl
        | ge c sz => simp only [VR] at hv; obtain ⟨_, _, _, _, rfl⟩ := hv; rfl
      | int k n => simp only [VR] at hv; subst hv; rfl
      | str l => simp only [VR] at hv; obtain ⟨_, rfl, _⟩ := hv; rfl
      | ptr b o => simp only [VR] at hv; obtain ⟨_, rfl⟩ := hv; rfl
      | map b => simp only [VR] at hv; obtain ⟨_, rfl⟩ := hv; rfl
      | fn f l => simp only [VR] at hv; obtain ⟨_, rfl, _⟩ := hv; rfl
      | ifc t v => simp only [VR] at hv; obtain ⟨_, rfl, _⟩ := hv; rfl
      | agg l => simp only [VR] at hv; obtain ⟨_, rfl, _⟩ := hv; rfl
      | tup l => simp only [VR] at hv; obtain ⟨_, rfl, _⟩ := hv; rfl
/-- what the translation of an operation says -/
theorem trOper_ok {ops : Array Oper} {o : Oper} {i : IOp} (h : trOper P G N ops o = some i) : trOp P G o.op = some (kOf i) ∧ (∀ d, o.dst = some d → d < 4096 ∧ d < N ∧ dOf i = some (pth 12 d)) ∧ (o.dst = none → dOf i = none) ∧
    ((o.guard = none ∧ gOf i = [] ∧ ∀ call fr s, valOp i call fr s = stepK (kOf i) call fr s) ∨
      ∃ j c oj t, o.guard = some (j, c) ∧ ops[j]? = some oj ∧ oj.dst = some t ∧ t < 4096 ∧ t < N ∧ gOf i = [.t (pth 12 t)] ∧ ∀ call fr s, valOp i call fr s = (match wants fr (pth 12 t) c with | some true => stepK (kOf i) call fr s | some false => some (unit, s) | none => none)) := by
  unfold trOper at h
  split at h
  · cases h
  · rename_i k hk
    split at h
    · rename_i hg
      split at h
      · rename_i d hd
        split at h
        · rename_i hok
          cases h
          obtain ⟨h1, h2⟩ := okTmp_ok hok
          exact ⟨hk, fun d' hd' => (by rw [hd] at hd'; cases hd'; exact ⟨h1, h2, rfl⟩), fun hd' => (by rw [hd] at hd'; cases hd'), .inl ⟨hg, rfl, fun _ _ _ => rfl⟩⟩
        · cases h
      · rename_i hd
        cases h
        exact ⟨hk, fun d' hd' => (by rw [hd] at hd'; cases hd'), fun _ => rfl, .inl ⟨hg, rfl, fun _ _ _ => rfl⟩⟩
    · rename_i j c hg
      split at h <;> try (cases h; done)
      rename_i d oj hd hoj
      split at h <;> try (cases h; done)
      rename_i t ht
      split at h <;> try (cases h; done)
      rename_i hok hok2
      cases h
      obtain ⟨h1, h2⟩ := okTmp_ok hok
      obtain ⟨h3, h4⟩ := okTmp_ok hok2
      exact ⟨hk, fun d' hd' => (by rw [hd] at hd'; cases hd'; exact ⟨h1, h2, rfl⟩), fun hd' => (by rw [hd] at hd'; cases hd'), .inr ⟨j, c, oj, t, hg, hoj, ht, h3, h4, rfl, fun _ _ _ => rfl⟩⟩
theorem After.same (hr : Rep G hole σ s w) {u : Value} (h : VR σ ⟨s.next, hole⟩ v u) : After G hole σ s w v s u w := ⟨σ, [], h, by simp, Post.refl hr⟩
theorem op_step (hc : CallOk P G call) (hr : Rep G hole σ s w) (hg : ∀ g, g < G → ¬ hole g) (hf : FR σ ⟨s.next, hole⟩ fr a.tmps) (hN : N ≤ a.tmps.size) {ops : Array Oper} {n : Nat} {o : Oper} {i : IOp} (ho : ops[n]? = some o) (h : trOper P G N ops o = some i)
    (hk : valOp i call fr s = some (v, s')) {Q : Exit → Act → World → Prop} {K : Act → World → Prop} (hn : ∀ u w', After G hole σ s w v s' u w' → K (a.put o.dst u) w') : wpOp P ops Q n K a w := by
  obtain ⟨h1, _, _, h4⟩ := trOper_ok h
  unfold wpOp
  simp only [ho]
  rcases h4 with ⟨hgd, _, hval⟩ | ⟨j, c, oj, t, hgd, hoj, ht, h5, h6, _, hval⟩
  · have : Region.wanted o (yielded ops a.tmps) = true := by simp [Region.wanted, hgd]
    rw [if_pos this]
    rw [hval] at hk
    exact .inl (run_oper hc hr hg hf h1 hk hn)
  · rw [hval] at hk
    split at hk <;> try (cases hk; done)
    · rename_i hw
      have hy := wants_ok hw h5 (Nat.lt_of_lt_of_le h6 hN) hf
      have : Region.wanted o (yielded ops a.tmps) = true := by
        simp only [Region.wanted, hgd, yielded, hoj, Option.bind_some, ht]
        rw [← hy]
        cases a.tmps[t]? with
        | none => rfl
        | some x => cases x <;> rfl
      rw [if_pos this]
      exact .inl (run_oper hc hr hg hf h1 hk hn)
    · rename_i hw
      have hy := wants_ok hw h5 (Nat.lt_of_lt_of_le h6 hN) hf
      have : ¬ Region.wanted o (yielded ops a.tmps) = true := by
        simp only [Region.wanted, hgd, yielded, hoj, Option.bind_some, ht]
        rw [Bool.not_eq_true, ← hy]
        cases a.tmps[t]? with
        | none => rfl
        | some x => cases x <;> rfl
      rw [if_neg this]
      cases hk
      exact hn undef w (After.same hr (by simp [unit, undef, VR, VRs]))
theorem put_size (a : Act) (d : Option Tmp) (u : Value) : (a.put d u).tmps.size = a.tmps.size := by cases d <;> simp [Act.put]
theorem put_defers (a : Act) (d : Option Tmp) (u : Value) : (a.put d u).defers = a.defers := by cases d <;> rfl
/-- the frame behind an operation -/
theorem FR.op (hf : FR σ D fr a.tmps) (hN : N ≤ a.tmps.size) {ops : Array Oper} {o : Oper} {i : IOp} (h : trOper P G N ops o = some i) {u : Value} (hv : VR σ D v u) : FR σ D (setOp i fr v) (a.put o.dst u).tmps := by
  obtain ⟨_, h2, h3, _⟩ := trOper_ok h
  cases hd : o.dst with
  | none =>
    have := h3 hd
    cases i with
    | r d k => cases this
    | n k => exact hf
    | g d t w k => cases this
  | some d =>
    obtain ⟨e1, e2, e3⟩ := h2 d hd
    cases i with
    | r d' k => cases e3; exact hf.set e1 (Nat.lt_of_lt_of_le e2 hN) hv
    | n k => cases e3
    | g d' t w k => cases e3; exact hf.set e1 (Nat.lt_of_lt_of_le e2 hN) hv
end
end Ax
namespace Ax
open Go
/-- what is to hold behind a piece of code that ends with fr', s' -/
def Goes (G : Nat) (hole : Nat → Prop) (σ : Sig) (s : St) (w : World) (a : Act) (fr' : Tr AV) (s' : St) (K : Act → World → Prop) : Prop :=
  ∀ a' w' σ' log, a'.defers = a.defers → a'.tmps.size = a.tmps.size → FR σ' ⟨s'.next, hole⟩ fr' a'.tmps → s'.wlog = log ++ s.wlog → Post G hole σ s w log σ' s' w' → K a' w'
section
variable {P : Program} {G N : Nat} {hole : Nat → Prop} {σ : Sig} {s s' : St} {w : World} {v : AV} {fr fr' : Tr AV} {a : Act} {call : CallT} {Q : Exit → Act → World → Prop}
theorem Goes.step {K : Act → World → Prop} (h : Goes G hole σ s w a fr' s' K) {s₁ : St} {w₁ : World} {a₁ : Act} {σ₁ : Sig} {l₁ : List (Nat × Nat × Nat)} (hd : a₁.defers = a.defers) (hs : a₁.tmps.size = a.tmps.size) (hw : s₁.wlog = l₁ ++ s.wlog) (hp : Post G hole σ s w l₁ σ₁ s₁ w₁) :
    Goes G hole σ₁ s₁ w₁ a₁ fr' s' K := fun a' w' σ' log h1 h2 h3 h4 h5 => h a' w' σ' (log ++ l₁) (h1.trans hd) (h2.trans hs) h3 (by rw [h4, hw, List.append_assoc]) (hp.trans h5)
theorem ops_ok (hc : CallOk P G call) (hg : ∀ g, g < G → ¬ hole g) {ops : Array Oper} : ∀ (l : List IOp) (n : Nat) (fr : Tr AV) (s : St) (σ : Sig) (w : World) (a : Act), (∀ (j : Nat) (i : IOp), l[j]? = some i → ∃ o, ops[n + j]? = some o ∧ trOper P G N ops o = some i) →
    stepOps l call fr s = some (fr', s') → Rep G hole σ s w → FR σ ⟨s.next, hole⟩ fr a.tmps → N ≤ a.tmps.size → Goes G hole σ s w a fr' s' (Q .normal) → wpOps P ops Q (List.range' n l.length) a w
  | [], n, fr, s, σ, w, a, _, hk, hr, hf, hN, hq => by
    have hk' : some (fr, s) = some (fr', s') := hk
    cases hk'
    simp only [List.length_nil, List.range'_zero, wpOps]
    exact hq a w σ [] rfl rfl hf (by simp) (Post.refl hr)
  | i :: l, n, fr, s, σ, w, a, ht, hk, hr, hf, hN, hq => by
    rw [stepOps_cons] at hk
    split at hk <;> try (cases hk; done)
    rename_i v s₁ hv
    obtain ⟨o, ho, hi⟩ := ht 0 i rfl
    rw [List.length_cons, List.range'_succ, wpOps_cons]
    refine op_step hc hr hg hf hN ho hi hv fun u w₁ ⟨σ₁, l₁, g1, g2, g3⟩ => ?_
    exact ops_ok hc hg l (n + 1) _ s₁ σ₁ w₁ _ (fun j i' hj => by
      obtain ⟨o', h1, h2⟩ := ht (j + 1) i' (by simpa using hj)
      exact ⟨o', by rw [show n + 1 + j = n + (j + 1) by omega]; exact h1, h2⟩) hk g3.rep ((hf.mono g3.mono).op hN hi g1) (by rw [put_size]; exact hN)
      (hq.step (put_defers ..) (put_size ..) g2 g3)
theorem trOpers_ok {ops : Array Oper} : ∀ {l : List Oper} {r : List IOp}, trOpers P G N ops l = some r → r.length = l.length ∧ ∀ (j : Nat) (i : IOp), r[j]? = some i → ∃ o, l[j]? = some o ∧ trOper P G N ops o = some i
  | [], r, h => by simp only [trOpers, Option.some.injEq] at h; subst h; exact ⟨rfl, fun j i hj => by simp at hj⟩
  | o :: l, r, h => by
    simp only [trOpers] at h
    split at h <;> try (cases h; done)
    rename_i i r' hi hr'
    cases h
    obtain ⟨h1, h2⟩ := trOpers_ok hr'
    refine ⟨by simp [h1], fun j i' hj => ?_⟩
    cases j with
    | zero => cases hj; exact ⟨o, rfl, hi⟩
    | succ j => simp at hj ⊢; exact h2 j i' hj
theorem region_ok (hc : CallOk P G call) (hg : ∀ g, g < G → ¬ hole g) {id : Nat} {ops : Array Oper} {l : List IOp} (ht : trOpers P G N ops ops.toList = some l) (hk : stepOps l call fr s = some (fr', s'))
    (hr : Rep G hole σ s w) (hf : FR σ ⟨s.next, hole⟩ fr a.tmps) (hN : N ≤ a.tmps.size) (hq : Goes G hole σ s w a fr' s' (Q .normal)) : (Code.region id ops false).wp P Q a w := by
  obtain ⟨h1, h2⟩ := trOpers_ok ht
  refine wp_region ?_
  rw [List.range_eq_range', show ops.size = l.length by rw [h1]; simp]
  exact ops_ok hc hg l 0 fr s σ w a (fun j i hj => by
    obtain ⟨o, g1, g2⟩ := h2 j i hj
    exact ⟨o, by rw [Nat.zero_add]; simpa using g1, g2⟩) hk hr hf hN hq
end
end Ax
