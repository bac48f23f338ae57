/- The translation of single operations, and that it is right: values, memory. · The translation of single operations, and that it is right: addresses, parts, numbers. · The translation of single operations, and that it is right: texts, slices, what is made. · The translation of single operations, and that it is right: what is built, what is converted. · The translation of single operations, and that it is right: rows that are made, conversions. · Conversions. -/
import Derived.Test.YtneabigkdcbddaaGreatDoorA3
import Derived.Laws.Tables
import Derived.Laws.BytesString
import Derived.Laws.BytesArg
set_option linter.unusedVariables false
set_option linter.unusedSimpArgs false
set_option linter.unusedSectionVars false
set_option linter.unnecessarySimpa false
namespace Ax
open Go
section
variable (P : Program) (G : Nat)
def m1 (x : Option IArg) (f : IArg → IK) : Option IK := match x with | some a => some (f a) | none => none
def m2 (x y : Option IArg) (f : IArg → IArg → IK) : Option IK := match x, y with | some a, some b => some (f a b) | _, _ => none
def m3 (x y z : Option IArg) (f : IArg → IArg → IArg → IK) : Option IK := match x, y, z with | some a, some b, some c => some (f a b c) | _, _, _ => none
def mo (x : Option Operand) : Option (Option IArg) := match x with | none => some none | some x => (match ta G x with | some a => some (some a) | none => none)
def zeroOf (t : TypeId) : Option (List AV) := match P.info? t with | some i => (match i.zero with | some z => mapO (cv 3) z.cells.toList | none => none) | none => none
def sizeO (t : TypeId) : Option Nat := match P.info? t with | some i => some i.size | none => none
def aggO (t : TypeId) : Option Bool := match P.underlying t with | some d => some (aggD d) | none => none
def isConst : Operand → Bool | .const _ => true | _ => false
def partsOf (place : Nat → Option (Nat × Nat)) : List (Nat × Operand) → Option (List (Nat × Nat × IArg))
  | [] => some []
  | (i, x) :: r => match place i, ta G x, partsOf place r with | some (o, n), some a, some l => some ((o, n, a) :: l) | _, _, _ => none
def fieldPlaces (fs : Array Field) (i : Nat) : Option (Nat × Nat) := match fs[i]? with | some f => (match sizeO P f.type with | some n => some (f.offset, n) | none => none) | none => none
def allSized : List Field → Bool
  | [] => true
  | f :: fs => match P.info? f.type with | some _ => allSized fs | none => false
def trAlloc (e : TypeId) : Option IK := match zeroOf P e with | some l => some (.alloc e l) | none => none
def trBuild (t : TypeId) (parts : List (Nat × Operand)) : Option IK :=
  match P.underlying t, zeroOf P t with
  | some (.struct fs), some z => (match allSized P fs.toList, partsOf G (fieldPlaces P fs) parts with | true, some l => some (.build z l) | _, _ => none)
  | some (.array _ e), some z => (match sizeO P e with | some n => (match partsOf G (fun i => some (i * n, n)) parts with | some l => some (.build z l) | none => none) | none => none)
  | _, _ => none
def trBuildSlice (t : TypeId) (len : Nat) (parts : List (Nat × Operand)) : Option IK :=
  match P.underlying t with
  | some (.slice e) => (match sizeO P e, zeroOf P e with
    | some n, some z => (match partsOf G (fun i => some (i * n, n)) parts, Nat.beq (llen z) n, Nat.ble (len * n) 65536, Nat.beq n 0 with
      | some l, true, true, false => some (.buildSlice e (lrep len z) len l)
      | _, _, _, _ => none)
    | _, _ => none)
  | _ => none
def trLoad (t : TypeId) (a : Operand) : Option IK :=
  match aggO P t, sizeO P t with
  | some true, some n => m1 (ta G a) (.loadN n)
  | some false, some _ => m1 (ta G a) .load
  | _, _ => none
def trStore (t : TypeId) (a x : Operand) : Option IK :=
  match aggO P t, sizeO P t with
  | some true, some n => m2 (ta G a) (ta G x) (.storeN n)
  | some false, some n => (match Nat.beq n 1 with | true => m2 (ta G a) (ta G x) .store | false => none)
  | _, _ => none
def trBin (op : BinOp) (t : TypeId) (x y : Operand) : Option IK :=
  match op with
  | .eql => (match ekOf P t with
    | some (.sc .n) => m2 (ta G x) (ta G y) (.bin .eql)
    | some (.sc .s) => m2 (ta G x) (ta G y) (.bin .eql)
    | some ek => m2 (ta G x) (ta G y) (.eq ek (isConst x || isConst y) false)
    | none => none)
  | .neq => (match ekOf P t with
    | some (.sc .n) => m2 (ta G x) (ta G y) (.bin .neq)
    | some (.sc .s) => m2 (ta G x) (ta G y) (.bin .neq)
    | some ek => m2 (ta G x) (ta G y) (.eq ek (isConst x || isConst y) true)
    | none => none)
  | op => m2 (ta G x) (ta G y) (.bin op)
def trFieldAddr (t : TypeId) (x : Operand) (f : Nat) : Option IK :=
  match P.underlying t with
  | some (.struct fs) => (match fs[f]? with
    | some fd => (match P.info? fd.type with | some i => (match Nat.beq i.size 0 with | true => none | false => m1 (ta G x) (.fieldAddr fd.offset)) | none => none)
    | none => none)
  | _ => none
def trField (t : TypeId) (x : Operand) (f : Nat) : Option IK :=
  match P.underlying t with
  | some (.struct fs) => (match fs[f]? with
    | some fd => (match aggO P fd.type, sizeO P fd.type with
      | some true, some n => m1 (ta G x) (.fieldN fd.offset n)
      | some false, some _ => m1 (ta G x) (.field fd.offset)
      | _, _ => none)
    | none => none)
  | _ => none
def trIdxAddr (t : TypeId) (x i : Operand) : Option IK :=
  match P.underlying t with
  | some (.slice e) => (match sizeO P e with | some n => m2 (ta G x) (ta G i) (.idxAddrSl n) | none => none)
  | some (.array len e) => (match sizeO P e with | some n => m2 (ta G x) (ta G i) (.idxAddrArr len n) | none => none)
  | _ => none
def trIdx (t : TypeId) (x i : Operand) : Option IK :=
  match P.underlying t with
  | some .string => m2 (ta G x) (ta G i) .idxStr
  | some (.array len e) => (match aggO P e, sizeO P e with | some false, some n => (match Nat.beq n 1 with | true => m2 (ta G x) (ta G i) (.idxArr len) | false => none) | _, _ => none)
  | _ => none
end
section
variable {P : Program} {G : Nat} {hole : Nat → Prop} {σ : Sig} {s s' : St} {w : World} {v : AV} {fr : Tr AV} {a : Act} {call : CallT}
theorem sizeO_ok {t : TypeId} {n : Nat} (h : sizeO P t = some n) : ∃ i, P.info? t = some i ∧ i.size = n := by
  unfold sizeO at h
  split at h
  · rename_i i hi; cases h; exact ⟨i, hi, rfl⟩
  · cases h
theorem aggO_ok {t : TypeId} {b : Bool} (h : aggO P t = some b) : ∃ d, P.underlying t = some d ∧ aggD d = b := by
  unfold aggO at h
  split at h
  · rename_i d hd; cases h; exact ⟨d, hd, rfl⟩
  · cases h
theorem zeroOf_ok {t : TypeId} {l : List AV} (h : zeroOf P t = some l) : ∃ i z, P.info? t = some i ∧ i.zero = some z ∧ ∀ σ D, VRs σ D l z.cells.toList := by
  unfold zeroOf at h
  split at h
  · rename_i i hi
    split at h
    · rename_i z hz
      refine ⟨i, z, hi, hz, fun σ D => ?_⟩
      have := mapO_ok (g := id) (fun v a h => cv_ok σ D 3 v a h) _ _ h
      rwa [List.map_id] at this
    · cases h
  · cases h
theorem m1_ok {x : Option IArg} {f : IArg → IK} {k : IK} (h : m1 x f = some k) : ∃ a, x = some a ∧ k = f a := by
  unfold m1 at h; split at h
  · cases h; exact ⟨_, rfl, rfl⟩
  · cases h
theorem m2_ok {x y : Option IArg} {f : IArg → IArg → IK} {k : IK} (h : m2 x y f = some k) : ∃ a b, x = some a ∧ y = some b ∧ k = f a b := by
  unfold m2 at h; split at h
  · cases h; exact ⟨_, _, rfl, rfl, rfl⟩
  · cases h
theorem m3_ok {x y z : Option IArg} {f : IArg → IArg → IArg → IK} {k : IK} (h : m3 x y z f = some k) : ∃ a b c, x = some a ∧ y = some b ∧ z = some c ∧ k = f a b c := by
  unfold m3 at h; split at h
  · cases h; exact ⟨_, _, _, rfl, rfl, rfl, rfl⟩
  · cases h
variable (hr : Rep G hole σ s w) (hg : ∀ g, g < G → ¬ hole g) (hf : FR σ ⟨s.next, hole⟩ fr a.tmps)
include hr hg hf
theorem S_move {x : Operand} {k : IK} (h : m1 (ta G x) .move = some k) (hk : stepK k call fr s = some (v, s')) : Does G hole σ s w v s' (.ok (.value (a.eval x)) w) := by
  obtain ⟨i, hi, rfl⟩ := m1_ok h
  cases hk
  exact Does.pure hr rfl (ta_ok hr hg hf hi)
theorem S_pick {c x y : Operand} {k : IK} (h : m3 (ta G c) (ta G x) (ta G y) .pick = some k) (hk : stepK k call fr s = some (v, s')) :
    Does G hole σ s w v s' ((do pure (.value (if ← asBool (a.eval c) then a.eval x else a.eval y)) : Sem Next).run P w) := by
  obtain ⟨i, j, l, hi, hj, hl, rfl⟩ := m3_ok h
  obtain ⟨hk', rfl⟩ := ret_ok hk
  obtain ⟨t, h1, h2⟩ := pick_ok hk' (ta_ok hr hg hf hi) (ta_ok hr hg hf hj) (ta_ok hr hg hf hl)
  refine Does.pure hr ?_ h2
  rw [h1]; simp [asBool]
theorem S_alloc {e : TypeId} {k : IK} (h : trAlloc P e = some k) (hk : stepK k call fr s = some (v, s')) (hn : ¬ hole s.next) :
    Does G hole σ s w v s' ((do pure (.value (← Instr.alloc e true (.tuple #[]))) : Sem Next).run P w) := by
  unfold trAlloc at h
  split at h
  · rename_i l hl
    cases h
    obtain ⟨i, z, hi, hz, hv⟩ := zeroOf_ok hl
    obtain ⟨rfl, h2, h3, h4⟩ := new_cells (pad := []) (f₀ := 0) (f₁ := 0) hr hk (hv σ _) (w' := w.alloc (.cells z.cells e)) (by show w.heap.push _ = _; simp) (by omega) rfl rfl rfl
    refine ⟨.pointer (some ⟨w.heap.size, 0, none⟩), _, _, [], .inl ?_, ?_, by simpa using h2, h4⟩
    · simp only [Sem.run_bind, run_alloc hi hz, Result.andThen_ok, Sem.run_pure]
    · rw [h3]; exact at_ok hn 0
  · cases h
theorem S_box {e : TypeId} {x : Operand} {k : IK} (h : m1 (ta G x) (.box e) = some k) (hk : stepK k call fr s = some (v, s')) (hn : ¬ hole s.next) :
    Does G hole σ s w v s' ((do pure (.value (← Instr.box e (a.eval x))) : Sem Next).run P w) := by
  obtain ⟨i, hi, rfl⟩ := m1_ok h
  obtain ⟨rfl, h2, h3, h4⟩ := new_cells (pad := []) (f₀ := 0) (f₁ := 0) hr hk (cells_ok (ta_ok hr hg hf hi)) (w' := w.alloc (.cells (a.eval x).cells e)) (by show w.heap.push _ = _; simp) (by omega) rfl rfl rfl
  refine ⟨.pointer (some ⟨w.heap.size, 0, none⟩), _, _, [], .inl ?_, ?_, by simpa using h2, h4⟩
  · simp only [Sem.run_bind, run_box, Result.andThen_ok, Sem.run_pure]
  · rw [h3]; exact at_ok hn 0
theorem S_load {t : TypeId} {x : Operand} {k : IK} (h : trLoad P G t x = some k) (hk : stepK k call fr s = some (v, s')) :
    Does G hole σ s w v s' ((do pure (.value (← Instr.loadAt t (a.eval x))) : Sem Next).run P w) := by
  unfold trLoad at h
  split at h
  · rename_i n hagg hsz
    obtain ⟨i, hi, rfl⟩ := m1_ok h
    obtain ⟨d, hd, hda⟩ := aggO_ok hagg
    obtain ⟨ti, hti, hts⟩ := sizeO_ok hsz
    obtain ⟨rfl, B, o, cs, h1, h2, h3, h4⟩ := loadN_ok hr hk (ta_ok hr hg hf hi)
    refine Does.pure hr ?_ h4
    have hl := run_loadCells_list (P := P) w ⟨B, o, none⟩ cs h3
    rw [h1]
    simp only [Sem.run_bind, Instr.loadAt, Instr.sureAddr, Sem.run_pure, Result.andThen_ok, loadVar, run_isAgg hd, hda, if_true, Sem.run_ite, run_size hti, hts]
    rw [← h2, hl]; rfl
  · rename_i n hagg hsz
    obtain ⟨i, hi, rfl⟩ := m1_ok h
    obtain ⟨d, hd, hda⟩ := aggO_ok hagg
    obtain ⟨rfl, B, o, y, h1, h2, h3⟩ := load_ok hr hk (ta_ok hr hg hf hi)
    refine Does.pure hr ?_ h3
    rw [h1]
    simp only [Sem.run_bind, Instr.loadAt, Instr.sureAddr, Sem.run_pure, Result.andThen_ok, loadVar, run_isAgg hd, hda, Bool.false_eq_true, if_false, Sem.run_ite, run_load, h2]
  · cases h
theorem S_store {t : TypeId} {x y : Operand} {k : IK} (h : trStore P G t x y = some k) (hk : stepK k call fr s = some (v, s')) :
    Does G hole σ s w v s' ((do Instr.storeAt t (a.eval x) (a.eval y); pure .skip : Sem Next).run P w) := by
  unfold trStore at h
  split at h
  · rename_i n hagg hsz
    obtain ⟨i, j, hi, hj, rfl⟩ := m2_ok h
    obtain ⟨ti, hti, hts⟩ := sizeO_ok hsz
    obtain ⟨rfl, w', log, h1, h2, h3⟩ := storeN_ok hr hti hts hk (ta_ok hr hg hf hi) (ta_ok hr hg hf hj)
    refine ⟨undef, w', σ, log, .inr ⟨?_, rfl⟩, by simp [VR, unit, undef, VRs], h2, h3⟩
    simp only [Sem.run_bind, h1, Result.andThen_ok, Sem.run_pure]
  · rename_i n hagg hsz
    split at h
    · rename_i hn1
      obtain ⟨i, j, hi, hj, rfl⟩ := m2_ok h
      obtain ⟨ti, hti, hts⟩ := sizeO_ok hsz
      obtain ⟨rfl, w', log, h1, h2, h3⟩ := store_ok hr hti (hts.trans (beq_iff.1 hn1)) hk (ta_ok hr hg hf hi) (ta_ok hr hg hf hj)
      refine ⟨undef, w', σ, log, .inr ⟨?_, rfl⟩, by simp [VR, unit, undef, VRs], h2, h3⟩
      simp only [Sem.run_bind, h1, Result.andThen_ok, Sem.run_pure]
    · cases h
  · cases h
theorem S_bin {op : BinOp} {t : TypeId} {x y : Operand} {k : IK} (h : trBin P G op t x y = some k) (hk : stepK k call fr s = some (v, s')) :
    Does G hole σ s w v s' ((do pure (.value (← (do eqGuard op t x y (a.eval x) (a.eval y); Go.binOp op t (a.eval x) (a.eval y)))) : Sem Next).run P w) := by
  have plain : m2 (ta G x) (ta G y) (.bin op) = some k → Does G hole σ s w v s' ((do pure (.value (← (do eqGuard op t x y (a.eval x) (a.eval y); Go.binOp op t (a.eval x) (a.eval y)))) : Sem Next).run P w) := by
    intro h
    obtain ⟨i, j, hi, hj, rfl⟩ := m2_ok h
    obtain ⟨hk', rfl⟩ := ret_ok hk
    obtain ⟨u, h1, h2⟩ := binop_ok hk' (ta_ok hr hg hf hi) (ta_ok hr hg hf hj)
    refine Does.pure hr ?_ h1
    rw [Sem.run_bind, h2 P w t x y]; rfl
  have eqs : ∀ (neg : Bool) (ek : EK), ekOf P t = some ek → m2 (ta G x) (ta G y) (.eq ek (isConst x || isConst y) neg) = some k → op = (if neg then .neq else .eql) →
      Does G hole σ s w v s' ((do pure (.value (← (do eqGuard op t x y (a.eval x) (a.eval y); Go.binOp op t (a.eval x) (a.eval y)))) : Sem Next).run P w) := by
    intro neg ek hek h hop
    obtain ⟨i, j, hi, hj, rfl⟩ := m2_ok h
    obtain ⟨hk', rfl⟩ := ret_ok hk
    unfold eqOp at hk'
    split at hk'
    · rename_i b hb
      cases hk'
      have hc : (isConst x || isConst y) = true → (∃ v, x = .const v) ∨ ∃ v, y = .const v := by
        intro hc
        cases x <;> cases y <;> simp [isConst] at hc ⊢
      have := eq_ok (w := w) (neg := neg) hek hb (ta_ok hr hg hf hi) (ta_ok hr hg hf hj) hc
      refine Does.pure (u := .bool (if neg then !b else b)) hr ?_ (VR_bool.2 ?_)
      · rw [Sem.run_bind, hop, this]; rfl
      · cases neg <;> simp [bnot_eq]
    · cases hk'
  unfold trBin at h
  split at h
  · split at h
    · exact plain h
    · exact plain h
    · rename_i ek _ _ hek; exact eqs false _ hek h rfl
    · cases h
  · split at h
    · exact plain h
    · exact plain h
    · rename_i ek _ _ hek; exact eqs true _ hek h rfl
    · cases h
  · exact plain h
end
end Ax
namespace Ax
open Go
section
variable {P : Program} {G : Nat} {hole : Nat → Prop} {σ : Sig} {s s' : St} {w : World} {v : AV} {fr : Tr AV} {a : Act} {call : CallT}
variable (hr : Rep G hole σ s w) (hg : ∀ g, g < G → ¬ hole g) (hf : FR σ ⟨s.next, hole⟩ fr a.tmps)
include hr hg hf
theorem S_nilCheck {x : Operand} {k : IK} (h : m1 (ta G x) .nilCheck = some k) (hk : stepK k call fr s = some (v, s')) (o : Oper) (ho : o.op = .nilCheck x) :
    Does G hole σ s w v s' ((execOp a.eval o).run P w) := by
  obtain ⟨i, hi, rfl⟩ := m1_ok h
  have hv := ta_ok hr hg hf hi
  obtain ⟨rfl, rfl, h1, h2, h3, h4⟩ := nilCheck_ok (σ := σ) (D := ⟨s.next, hole⟩) hk hv
  refine Does.pure hr ?_ hv
  unfold execOp
  simp only [ho]
  generalize a.eval x = u at *
  rfl
theorem S_un {op : UnOp} {x : Operand} {k : IK} (h : m1 (ta G x) (.un op) = some k) (hk : stepK k call fr s = some (v, s')) :
    Does G hole σ s w v s' ((do pure (.value (← Op.unary op (a.eval x))) : Sem Next).run P w) := by
  obtain ⟨i, hi, rfl⟩ := m1_ok h
  obtain ⟨hk', rfl⟩ := ret_ok hk
  obtain ⟨u, h1, h2⟩ := un_ok hk' (ta_ok hr hg hf hi)
  refine Does.pure hr ?_ h1
  rw [Sem.run_bind, h2 P w]; rfl
theorem S_fieldAddr {t : TypeId} {x : Operand} {f : Nat} {k : IK} (h : trFieldAddr P G t x f = some k) (hk : stepK k call fr s = some (v, s')) :
    Does G hole σ s w v s' ((do pure (.value (← Instr.fieldAt t (a.eval x) f)) : Sem Next).run P w) := by
  unfold trFieldAddr at h
  split at h
  · rename_i fs hu
    split at h
    · rename_i fd hfd
      split at h
      · rename_i ti hti
        split at h
        · cases h
        · rename_i hsz
          obtain ⟨i, hi, rfl⟩ := m1_ok h
          obtain ⟨hk', rfl⟩ := ret_ok hk
          obtain ⟨B, o, h1, h2⟩ := fieldAddr_ok hk' (ta_ok hr hg hf hi)
          refine Does.pure hr ?_ h2
          rw [h1, Sem.run_bind, run_fieldAt hu hfd hti (beq_false_iff.1 hsz)]; rfl
      · cases h
    · cases h
  · cases h
theorem S_field {t : TypeId} {x : Operand} {f : Nat} {k : IK} (h : trField P G t x f = some k) (hk : stepK k call fr s = some (v, s')) :
    Does G hole σ s w v s' ((do pure (.value (← Instr.field t (a.eval x) f)) : Sem Next).run P w) := by
  unfold trField at h
  split at h
  · rename_i fs hu
    split at h
    · rename_i fd hfd
      split at h
      · rename_i n hagg hsz
        obtain ⟨i, hi, rfl⟩ := m1_ok h
        obtain ⟨hk', rfl⟩ := ret_ok hk
        obtain ⟨d, hd, hda⟩ := aggO_ok hagg
        obtain ⟨ti, hti, hts⟩ := sizeO_ok hsz
        obtain ⟨cs, h1, h2⟩ := fieldN_ok hk' (ta_ok hr hg hf hi)
        refine Does.pure hr ?_ h2
        rw [h1]
        simp only [Sem.run_bind, Instr.field, run_und hu, Result.andThen_ok, hfd, asAgg, Sem.run_pure, run_part_agg hd hda hti, hts]
      · rename_i n hagg hsz
        obtain ⟨i, hi, rfl⟩ := m1_ok h
        obtain ⟨hk', rfl⟩ := ret_ok hk
        obtain ⟨d, hd, hda⟩ := aggO_ok hagg
        obtain ⟨cs, h1, y, hy, h2⟩ := field_ok hk' (ta_ok hr hg hf hi)
        refine Does.pure hr ?_ h2
        rw [h1]
        simp only [Sem.run_bind, Instr.field, run_und hu, Result.andThen_ok, hfd, asAgg, Sem.run_pure, run_part hd hda hy]
      · cases h
    · cases h
  · cases h
theorem S_idxAddr {t : TypeId} {x y : Operand} {k : IK} (h : trIdxAddr P G t x y = some k) (hk : stepK k call fr s = some (v, s')) :
    Does G hole σ s w v s' ((do pure (.value (← Instr.indexAt t (a.eval x) (a.eval y))) : Sem Next).run P w) := by
  unfold trIdxAddr at h
  split at h
  · rename_i e hu
    split at h
    · rename_i n hsz
      obtain ⟨i, j, hi, hj, rfl⟩ := m2_ok h
      obtain ⟨hk', rfl⟩ := ret_ok hk
      obtain ⟨ti, hti, hts⟩ := sizeO_ok hsz
      obtain ⟨B, o, len, cap, kk, q, h1, h2, h3, h4⟩ := idxAddrSl_ok hk' (ta_ok hr hg hf hi) (ta_ok hr hg hf hj)
      refine Does.pure hr ?_ h4
      have hb : (0 : Int) ≤ (q : Int) ∧ (q : Int) < (len : Int) := ⟨by omega, by omega⟩
      rw [h1, h2]
      simp only [Sem.run_bind, Instr.indexAt, asIntOf, Sem.run_pure, Result.andThen_ok, run_und hu, hb, and_self, if_true, run_size hti, hts, Sem.run_ite]
      rw [add_eq]; simp
    · cases h
  · rename_i len e hu
    split at h
    · rename_i n hsz
      obtain ⟨i, j, hi, hj, rfl⟩ := m2_ok h
      obtain ⟨hk', rfl⟩ := ret_ok hk
      obtain ⟨ti, hti, hts⟩ := sizeO_ok hsz
      obtain ⟨B, o, kk, q, h1, h2, h3, h4⟩ := idxAddrArr_ok hk' (ta_ok hr hg hf hi) (ta_ok hr hg hf hj)
      refine Does.pure hr ?_ h4
      have hb : (0 : Int) ≤ (q : Int) ∧ (q : Int) < (len : Int) := ⟨by omega, by omega⟩
      rw [h1, h2]
      simp only [Sem.run_bind, Instr.indexAt, asIntOf, Sem.run_pure, Result.andThen_ok, run_und hu, Instr.sureAddr, hb, and_self, if_true, run_size hti, hts, Sem.run_ite]
      rw [add_eq]; simp
    · cases h
  · cases h
omit hr hg hf in
theorem idxArr_ok {D : Dom} {len : Nat} {x i : AV} {u y : Value} (h : doIdxArr len x i = some v) (ha : VR σ D x u) (hi : VR σ D i y) :
    ∃ (cs : Array Value) (k : IntKind) (n : Nat) (z : Value), u = .agg cs ∧ y = .int k (n : Nat) ∧ n < len ∧ cs[n]? = some z ∧ VR σ D v z := by
  unfold doIdxArr at h
  split at h
  · rename_i l
    split at h
    · rename_i k n
      split at h
      · rename_i hb
        rw [lget_eq] at h
        have hlt : n < len := by have := ble_iff.1 hb; simp only [Nat.add_eq] at this; omega
        simp only [VR] at ha hi
        subst hi
        obtain ⟨cs, rfl, hl⟩ := ha
        obtain ⟨z, hz, hv⟩ := VRs_get hl h
        exact ⟨cs, k, n, z, rfl, rfl, hlt, by simpa using hz, hv⟩
      · cases h
    · cases h
  · cases h
theorem S_idx {t : TypeId} {x y : Operand} {k : IK} (h : trIdx P G t x y = some k) (hk : stepK k call fr s = some (v, s')) :
    Does G hole σ s w v s' ((do pure (.value (← Instr.index t (a.eval x) (a.eval y))) : Sem Next).run P w) := by
  unfold trIdx at h
  split at h
  · rename_i hu
    obtain ⟨i, j, hi, hj, rfl⟩ := m2_ok h
    obtain ⟨hk', rfl⟩ := ret_ok hk
    obtain ⟨tt, kk, n, c, h1, h2, h3, rfl⟩ := idxStr_ok hk' (ta_ok hr hg hf hi) (ta_ok hr hg hf hj)
    refine Does.pure hr ?_ (VR_int.2 rfl)
    have hb : (0 : Int) ≤ (n : Int) := by omega
    rw [h1, h2]
    simp only [Sem.run_bind, Instr.index, asIntOf, Sem.run_pure, Result.andThen_ok, run_und hu, hb, if_true, Int.toNat_natCast, h3]
  · rename_i len e hu
    split at h
    · rename_i n hagg hsz
      split at h
      · rename_i hn1
        obtain ⟨i, j, hi, hj, rfl⟩ := m2_ok h
        obtain ⟨hk', rfl⟩ := ret_ok hk
        obtain ⟨d, hd, hda⟩ := aggO_ok hagg
        obtain ⟨ti, hti, hts⟩ := sizeO_ok hsz
        have hn1' := beq_iff.1 hn1
        obtain ⟨cs, kk, q, z, h1, h2, h3, h4, h5⟩ := idxArr_ok hk' (ta_ok hr hg hf hi) (ta_ok hr hg hf hj)
        refine Does.pure hr ?_ h5
        have hb : (0 : Int) ≤ (q : Int) ∧ (q : Int) < (len : Int) := ⟨by omega, by omega⟩
        rw [h1, h2]
        simp only [Sem.run_bind, Instr.index, asIntOf, Sem.run_pure, Result.andThen_ok, run_und hu, hb, and_self, if_true, run_size hti, hts, hn1', Int.toNat_natCast, Nat.mul_one, run_part hd hda h4, Sem.run_ite]
      · cases h
    · cases h
  · cases h
theorem S_makeIface {t : TypeId} {x : Operand} {k : IK} {d : TypeDesc} (hd : P.underlying t = some d) (hni : ∀ m, d ≠ .interface m) (h : m1 (ta G x) (.makeIface t) = some k) (hk : stepK k call fr s = some (v, s')) :
    Does G hole σ s w v s' ((do pure (.value (← Instr.makeInterface t (a.eval x))) : Sem Next).run P w) := by
  obtain ⟨i, hi, rfl⟩ := m1_ok h
  cases hk
  refine Does.pure (u := .iface t (a.eval x)) hr ?_ ?_
  · simp only [Sem.run_bind, Instr.makeInterface, run_und hd, Result.andThen_ok]
    cases d <;> first | rfl | exact absurd rfl (hni _)
  · simp only [VR]; exact ⟨_, rfl, ta_ok hr hg hf hi⟩
theorem S_makeFunc {f : FuncId} {caps : Array Operand} {k : IK} {l : List IArg} (hl : tas G caps.toList = some l) (h : k = .makeFunc f l) (hk : stepK k call fr s = some (v, s')) :
    Does G hole σ s w v s' ((do pure (.value (← Instr.makeFunc (.func f) ((#[] : Array Operand).map a.eval) (caps.map a.eval))) : Sem Next).run P w) := by
  subst h
  cases hk
  refine Does.pure (u := .func (.func f) #[] (caps.map a.eval)) hr (by simp [Instr.makeFunc]) ?_
  simp only [VR]
  exact ⟨_, rfl, by rw [Array.toList_map]; exact tas_ok hr hg hf hl⟩
theorem S_extract {x : Operand} {n : Nat} {k : IK} (h : m1 (ta G x) (fun i => .extract i n) = some k) (hk : stepK k call fr s = some (v, s')) :
    Does G hole σ s w v s' ((do pure (.value (← Instr.extract (a.eval x) n)) : Sem Next).run P w) := by
  obtain ⟨i, hi, rfl⟩ := m1_ok h
  obtain ⟨hk', rfl⟩ := ret_ok hk
  obtain ⟨vs, h1, y, h2, h3⟩ := extract_ok hk' (ta_ok hr hg hf hi)
  refine Does.pure hr ?_ h3
  rw [h1]
  simp only [Sem.run_bind, Instr.extract, h2, Sem.run_pure, Result.andThen_ok]
end
end Ax
namespace Ax
open Go
section
variable (P : Program) (G : Nat)
def isU8 (e : TypeId) : Bool := match P.underlying e with | some (.int .u8) => true | _ => false
/-- the kinds of struct that begin with a part of kind u: how many cells they have -/
def alsoAt (u e : TypeId) : Option (Nat × Nat) := match P.underlying e with
  | some (.struct fs) => (match fs[0]? with
    | some f => (match Nat.beq f.type u, Nat.beq f.offset 0, P.stoodInHeld e, Nat.ble 1 (P.cellsOf e) with | true, true, false, true => some (e, P.cellsOf e) | _, _, _, _ => none)
    | none => none)
  | _ => none
def alsoOf (u : TypeId) : List (Nat × Nat) := (List.range P.types.size).filterMap (alsoAt P u)
def trConvert (src dst : TypeId) (x : Operand) : Option IK :=
  match P.underlying src, P.underlying dst with
  | some (.int _), some (.int k) => m1 (ta G x) (.convInt k)
  | some .string, some (.slice e) => (match isU8 P e, sizeO P e with | true, some 1 => m1 (ta G x) (.strBytes e) | _, _ => none)
  | some (.slice e), some .string => (match isU8 P e, sizeO P e with | true, some 1 => m1 (ta G x) .bytesStr | _, _ => none)
  | some (.pointer e), some .unsafePointer => (match sizeO P e with | some (_ + 1) => m1 (ta G x) .toUns | _ => none)
  | some .unsafePointer, some (.pointer u) => (match sizeO P u with | some (n + 1) => m1 (ta G x) (.toPtr u (n + 1) (alsoOf P u)) | _ => none)
  | _, _ => none
def trSlice (t : TypeId) (x : Operand) (lo hi mx : Option Operand) : Option IK :=
  match P.underlying t with
  | some .string => (match ta G x, mo G lo, mo G hi, mx with | some a, some l, some h, none => some (.sliceStr a l h) | _, _, _, _ => none)
  | some (.slice e) => (match mx with
    | none => (match sizeO P e, ta G x, mo G lo, mo G hi with | some n, some a, some l, some h => some (.sliceSl n a l h none) | _, _, _, _ => none)
    | some m => (match hi with
      | some h => (match sizeO P e, ta G x, mo G lo, ta G h, ta G m with | some n, some a, some l, some h, some m => some (.sliceSl n a l (some h) (some m)) | _, _, _, _, _ => none)
      | none => none))
  | some (.array len e) => (match sizeO P e, ta G x, mo G lo, mo G hi, mx with | some n, some a, some l, some h, none => some (.sliceArr len n a l h none) | _, _, _, _, _ => none)
  | _ => none
def trMakeSlice (t : TypeId) (l c : Operand) : Option IK :=
  match P.underlying t with
  | some (.slice e) => (match P.info? e, zeroOf P e with
    | some i, some z => (match Nat.ble i.bytes 1024, Nat.beq (llen z) i.size, Nat.beq i.size 0 with | true, true, false => m2 (ta G l) (ta G c) (.makeSlice e z) | _, _, _ => none)
    | _, _ => none)
  | _ => none
end
section
variable {P : Program} {G : Nat} {hole : Nat → Prop} {σ : Sig} {s s' : St} {w : World} {v : AV} {fr : Tr AV} {a : Act} {call : CallT} {D : Dom}
theorem mo_ok (hr : Rep G hole σ s w) (hg : ∀ g, g < G → ¬ hole g) (hf : FR σ ⟨s.next, hole⟩ fr a.tmps) {x : Option Operand} {i : Option IArg} (h : mo G x = some i) :
    (x = none ∧ i = none) ∨ ∃ y j, x = some y ∧ i = some j ∧ VR σ ⟨s.next, hole⟩ (ev fr j) (a.eval y) := by
  unfold mo at h
  split at h
  · cases h; exact .inl ⟨rfl, rfl⟩
  · rename_i y
    split at h
    · rename_i j hj; cases h; exact .inr ⟨y, j, rfl, rfl, ta_ok hr hg hf hj⟩
    · cases h
/-- a bound of a slice expression -/
theorem bnd_ok (hr : Rep G hole σ s w) (hg : ∀ g, g < G → ¬ hole g) (hf : FR σ ⟨s.next, hole⟩ fr a.tmps) {x : Option Operand} {i : Option IArg} {d n : Nat} (h : mo G x = some i) (hb : bnd (evo fr i) d = some n) :
    (x = none ∧ n = d) ∨ ∃ y k, x = some y ∧ a.eval y = .int k (n : Nat) := by
  rcases mo_ok hr hg hf h with ⟨rfl, rfl⟩ | ⟨y, j, rfl, rfl, hv⟩
  · simp only [evo, bnd, Option.some.injEq] at hb; exact .inl ⟨rfl, hb.symm⟩
  · simp only [evo, bnd] at hb
    split at hb
    · rename_i heq; cases heq
    · rename_i k m heq
      cases hb
      have := Option.some.inj heq
      rw [this] at hv
      exact .inr ⟨y, k, rfl, VR_int.1 hv⟩
    · cases hb
theorem run_sliceBound {k : IntKind} {n y : Nat} (c : BoundsCode) (h : n ≤ y) : (Instr.sliceBound (.int k (n : Nat)) y c).run P w = .ok n w := by
  have : (0 : Int) ≤ (n : Int) ∧ (n : Int) ≤ (y : Int) := ⟨by omega, by omega⟩
  simp only [Instr.sliceBound, Sem.run_bind, asIntOf, Sem.run_pure, Result.andThen_ok, this, and_self, if_true, Int.toNat_natCast]
theorem run_bounds2 (hr : Rep G hole σ s w) (hg : ∀ g, g < G → ¬ hole g) (hf : FR σ ⟨s.next, hole⟩ fr a.tmps) {lo hi : Option Operand} {il ih : Option IArg} {b : Bool} {len cap l h : Nat}
    (hlo : mo G lo = some il) (hhi : mo G hi = some ih) (bl : bnd (evo fr il) 0 = some l) (bh : bnd (evo fr ih) len = some h) (h1 : l ≤ h) (h2 : h ≤ cap) :
    (Instr.sliceBounds b len cap (lo.map a.eval) (hi.map a.eval) none).run P w = .ok (l, h, cap) w := by
  rcases bnd_ok hr hg hf hhi bh with ⟨rfl, rfl⟩ | ⟨y, k, rfl, hy⟩ <;> rcases bnd_ok hr hg hf hlo bl with ⟨rfl, rfl⟩ | ⟨y', k', rfl, hy'⟩
  · simp only [Instr.sliceBounds, Option.map_none, Sem.run_bind, Sem.run_pure, Result.andThen_ok]
  · simp only [Instr.sliceBounds, Option.map_none, Option.map_some, hy', Sem.run_bind, Sem.run_pure, Result.andThen_ok, run_sliceBound _ h1]
  · simp only [Instr.sliceBounds, Option.map_none, Option.map_some, hy, Sem.run_bind, Sem.run_pure, Result.andThen_ok, run_sliceBound _ h2]
  · simp only [Instr.sliceBounds, Option.map_some, hy, hy', Sem.run_bind, Sem.run_pure, Result.andThen_ok, run_sliceBound _ h2, run_sliceBound _ h1]
theorem run_bounds3 (hr : Rep G hole σ s w) (hg : ∀ g, g < G → ¬ hole g) (hf : FR σ ⟨s.next, hole⟩ fr a.tmps) {lo : Option Operand} {x y : Operand} {il : Option IArg} {b : Bool} {len cap l h m : Nat} {k k' : IntKind}
    (hlo : mo G lo = some il) (bl : bnd (evo fr il) 0 = some l) (hx : a.eval x = .int k (h : Nat)) (hy : a.eval y = .int k' (m : Nat)) (h1 : l ≤ h) (h2 : h ≤ m) (h3 : m ≤ cap) :
    (Instr.sliceBounds b len cap (lo.map a.eval) ((some x).map a.eval) ((some y).map a.eval)).run P w = .ok (l, h, m) w := by
  rcases bnd_ok hr hg hf hlo bl with ⟨rfl, rfl⟩ | ⟨y', q, rfl, hy'⟩
  · simp only [Instr.sliceBounds, Option.map_none, Option.map_some, hx, hy, Sem.run_bind, Sem.run_pure, Result.andThen_ok, run_sliceBound _ h2, run_sliceBound _ h3]
  · simp only [Instr.sliceBounds, Option.map_some, hx, hy, hy', Sem.run_bind, Sem.run_pure, Result.andThen_ok, run_sliceBound _ h2, run_sliceBound _ h3, run_sliceBound _ h1]
theorem sliceStr_ok {x : AV} {u : Value} {lo hi : Option AV} (h : doSliceStr x lo hi = some v) (hx : VR σ D x u) :
    ∃ (t : ByteArray) (l hh : Nat), u = .string t ∧ bnd lo 0 = some l ∧ bnd hi t.size = some hh ∧ l ≤ hh ∧ hh ≤ t.size ∧ VR σ D v (.string (t.extract l hh)) := by
  unfold doSliceStr at h
  split at h
  · rename_i q
    simp only [VR] at hx
    obtain ⟨t, rfl, rfl⟩ := hx
    rw [llen_eq, str_len] at h
    split at h
    · rename_i hh hbh
      split at h
      · rename_i l hbl
        split at h
        · rename_i c1 c2
          cases h
          refine ⟨t, l, hh, rfl, hbl, hbh, ble_iff.1 c1, ble_iff.1 c2, ?_⟩
          simp only [VR]
          refine ⟨_, rfl, ?_⟩
          rw [ldrop_eq, ltake_eq, ByteArray.data_extract, Array.toList_extract, List.extract_eq_take_drop, ← List.map_take, ← List.map_drop, List.drop_take]
        · cases h
      · cases h
    · cases h
  · cases h
theorem sl_key {b o size lo h m : Nat} {le : Bool} {c : Cap} (hh : slMake b o size lo h m le c = some v) : lo ≤ h ∧ h ≤ m ∧ le = true ∧ v = .slc b (if m = lo then o else o + lo * size) (h - lo) c := by
  unfold slMake at hh
  split at hh
  · rename_i h1 h2
    cases hh
    refine ⟨ble_iff.1 h1, ble_iff.1 h2, rfl, ?_⟩
    congr 1
    by_cases e : m = lo
    · subst e; rw [Nat.beq_refl, if_pos rfl]
    · rw [beq_of_ne e, if_neg e]; rfl
  · cases hh
theorem slice_val (b o lo m size : Nat) :
    (if m = lo then (some (σ.addr b o)) else (some (σ.addr b o)).map (·.add (lo * size))) = some (σ.addr b (if m = lo then o else o + lo * size)) := by
  by_cases e : m = lo
  · simp [e]
  · simp only [e, if_false, Option.map_some, Sig.addr, add_eq, Nat.add_assoc]
theorem addr_if (b o lo m size : Nat) : (if m = lo then σ.addr b o else (σ.addr b o).add (lo * size)) = σ.addr b (if m = lo then o else o + lo * size) := by
  by_cases e : m = lo
  · simp [e]
  · simp only [e, if_false, Sig.addr, add_eq, Nat.add_assoc]
theorem S_slice (hr : Rep G hole σ s w) (hg : ∀ g, g < G → ¬ hole g) (hf : FR σ ⟨s.next, hole⟩ fr a.tmps) {t : TypeId} {x : Operand} {lo hi mx : Option Operand} {k : IK} (h : trSlice P G t x lo hi mx = some k) (hk : stepK k call fr s = some (v, s')) :
    Does G hole σ s w v s' ((do pure (.value (← Instr.sliceAt t (a.eval x) (lo.map a.eval) (hi.map a.eval) (mx.map a.eval))) : Sem Next).run P w) := by
  unfold trSlice at h
  split at h
  · rename_i hu
    split at h
    · rename_i i l hh hi' hl hhh
      cases h
      obtain ⟨hk', rfl⟩ := ret_ok hk
      obtain ⟨tt, q, r, h1, h2, h3, h4, h5, h6⟩ := sliceStr_ok hk' (ta_ok hr hg hf hi')
      refine Does.pure hr ?_ h6
      rw [h1]
      simp only [Sem.run_bind, Instr.sliceAt, run_und hu, Result.andThen_ok, Instr.slice, Option.map_none, Option.isSome_none, Bool.false_eq_true, if_false]
      rw [run_bounds2 hr hg hf hl hhh h2 h3 h4 h5]
      simp
    · cases h
  · rename_i e hu
    split at h
    · split at h
      · rename_i n i l hh hsz hi' hl hhh
        cases h
        obtain ⟨ti, hti, hts⟩ := sizeO_ok hsz
        obtain ⟨hk', rfl⟩ := ret_ok hk
        have hv := ta_ok hr hg hf hi'
        unfold doSliceSl at hk'
        split at hk'
        · rename_i b o len cap heq
          rw [heq] at hv
          split at hk'
          · rename_i h' hbh
            split at hk'
            · rename_i l' hbl
              simp only [evo] at hk'
              split at hk'
              · rename_i c
                obtain ⟨h1, h2, _, rfl⟩ := sl_key hk'
                simp only [VR] at hv
                obtain ⟨hok, hv⟩ := hv
                refine Does.pure (u := .slice (some (σ.addr b (if c = l' then o else o + l' * n))) (h' - l') (c - l')) hr ?_ ?_
                · rw [hv]
                  simp only [Sem.run_bind, Instr.sliceAt, run_und hu, Result.andThen_ok, Instr.slice, Option.map_none]
                  rw [run_bounds2 hr hg hf hl hhh hbl hbh h1 h2]
                  simp only [Result.andThen_ok, run_size hti, hts, Sem.run_pure, slice_val b o l' c n]
                · simp only [VR]; exact ⟨hok, rfl⟩
              · rename_i c sz
                split at hk'
                · rename_i hc1 hc2
                  obtain ⟨h1, h2, _, rfl⟩ := sl_key hk'
                  have hlt : l' < c := by have := ble_iff.1 hc1; simp only [Nat.add_eq] at this; omega
                  have hszz := beq_iff.1 hc2
                  subst hszz
                  simp only [VR] at hv
                  obtain ⟨hok, c', hcc, hbs, hv⟩ := hv
                  have ne1 : ¬ c = l' := by omega
                  have ne2 : ¬ c' = l' := by omega
                  refine Does.pure (u := .slice (some (σ.addr b (if c' = l' then o else o + l' * sz))) (h' - l') (c' - l')) hr ?_ ?_
                  · rw [hv]
                    simp only [Sem.run_bind, Instr.sliceAt, run_und hu, Result.andThen_ok, Instr.slice, Option.map_none]
                    rw [run_bounds2 hr hg hf hl hhh hbl hbh h1 (by omega)]
                    simp only [Result.andThen_ok, run_size hti, hts, Sem.run_pure, slice_val b o l' c' sz]
                  · simp only [if_neg ne1, if_neg ne2, VR]
                    refine ⟨hok, c' - l', by simp only [Nat.sub_eq]; omega, ?_, rfl⟩
                    have : (c' - l') * sz + l' * sz = c' * sz := by rw [← Nat.add_mul]; congr 1; omega
                    omega
                · split at hk'
                  · rename_i hz1 hz2
                    cases hk'
                    have e1 := beq_iff.1 hz1
                    have e2 := ble_iff.1 hz2
                    subst e1
                    simp only [VR] at hv
                    obtain ⟨hok, c', hcc, hbs, hv⟩ := hv
                    refine Does.pure (u := .slice (some (σ.addr b (if c' = l' then o else o + l' * n))) (l' - l') (c' - l')) hr ?_ ?_
                    · rw [hv]
                      simp only [Sem.run_bind, Instr.sliceAt, run_und hu, Result.andThen_ok, Instr.slice, Option.map_none]
                      rw [run_bounds2 hr hg hf hl hhh hbl hbh (Nat.le_refl _) (by omega)]
                      simp only [Result.andThen_ok, run_size hti, hts, Sem.run_pure, slice_val b o l' c' n]
                    · simp only [VR, Nat.sub_self]; exact ⟨_, _, rfl⟩
                  · cases hk'
            · cases hk'
          · cases hk'
        · rename_i heq
          rw [heq] at hv
          split at hk'
          · rename_i h' hbh
            split at hk'
            · rename_i l' hbl
              simp only [evo] at hk'
              split at hk'
              · rename_i hz1 hz2 hz3
                cases hk'
                have e1 := beq_iff.1 hz1
                have e2 := beq_iff.1 hz2
                subst e1 e2
                simp only [VR] at hv
                refine Does.pure (u := .slice none 0 0) hr ?_ (by simp only [VR])
                rw [hv]
                simp only [Sem.run_bind, Instr.sliceAt, run_und hu, Result.andThen_ok, Instr.slice, Option.map_none]
                rw [run_bounds2 hr hg hf hl hhh hbl hbh (Nat.le_refl _) (Nat.le_refl _)]
                simp only [Result.andThen_ok, run_size hti, hts, Sem.run_pure, if_true, Nat.sub_self]
              · cases hk'
            · cases hk'
          · cases hk'
        · cases hk'
      · cases h
    · rename_i m
      split at h
      · rename_i hx
        split at h
        · rename_i n i l hh mm hsz hi' hl hhh hmm
          cases h
          obtain ⟨ti, hti, hts⟩ := sizeO_ok hsz
          obtain ⟨hk', rfl⟩ := ret_ok hk
          have hv := ta_ok hr hg hf hi'
          have hvh := ta_ok hr hg hf hhh
          have hvm := ta_ok hr hg hf hmm
          unfold doSliceSl at hk'
          split at hk'
          · rename_i b o len cap heq
            rw [heq] at hv
            split at hk'
            · rename_i h' hbh
              split at hk'
              · rename_i l' hbl
                simp only [evo] at hk'
                split at hk'
                · rename_i km q heqm
                  rw [heqm] at hvm
                  have em := VR_int.1 hvm
                  obtain ⟨h1, h2, h3, rfl⟩ := sl_key hk'
                  have hmc := ble_iff.1 h3
                  simp only [evo, bnd] at hbh
                  split at hbh
                  · rename_i e0; cases e0
                  · rename_i kh q' e0
                    cases hbh
                    have e0' := Option.some.inj e0
                    rw [e0'] at hvh
                    have eh := VR_int.1 hvh
                    have hcap : ∃ c', q ≤ c' ∧ a.eval x = .slice (some (σ.addr b o)) len c' ∧ Dom.ok ⟨s'.next, hole⟩ b := by
                      cases cap with
                      | ex c => simp only [VR] at hv; exact ⟨c, hmc, hv.2, hv.1⟩
                      | ge c sz => simp only [VR] at hv; obtain ⟨hok, c', hcc, _, hv⟩ := hv; exact ⟨c', by simp only at hmc; omega, hv, hok⟩
                    obtain ⟨c', hqc, hv', hok⟩ := hcap
                    refine Does.pure (u := .slice (some (σ.addr b (if q = l' then o else o + l' * n))) (h' - l') (q - l')) hr ?_ ?_
                    · rw [hv']
                      simp only [Sem.run_bind, Instr.sliceAt, run_und hu, Result.andThen_ok, Instr.slice]
                      rw [run_bounds3 hr hg hf hl hbl eh em h1 h2 hqc]
                      simp only [Result.andThen_ok, run_size hti, hts, Sem.run_pure, slice_val b o l' q n]
                    · simp only [VR]; exact ⟨hok, rfl⟩
                  · cases hbh
                · cases hk'
              · cases hk'
            · cases hk'
          · rename_i heq
            split at hk'
            · split at hk'
              · split at hk'
                · rename_i e1 e2 e3; simp only [evo] at e3; cases e3
                · cases hk'
              · cases hk'
            · cases hk'
          · cases hk'
        · cases h
      · cases h
  · rename_i len e hu
    split at h
    · rename_i n i l hh hsz hi' hl hhh
      cases h
      obtain ⟨ti, hti, hts⟩ := sizeO_ok hsz
      obtain ⟨hk', rfl⟩ := ret_ok hk
      have hv := ta_ok hr hg hf hi'
      unfold doSliceArr at hk'
      split at hk'
      · rename_i b o heq
        rw [heq] at hv
        split at hk'
        · rename_i h' hbh
          split at hk'
          · rename_i l' hbl
            simp only [evo] at hk'
            obtain ⟨h1, h2, _, rfl⟩ := sl_key hk'
            simp only [VR] at hv
            obtain ⟨hok, hv⟩ := hv
            refine Does.pure (u := .slice (some (σ.addr b (if len = l' then o else o + l' * n))) (h' - l') (len - l')) hr ?_ ?_
            · rw [hv]
              simp only [Sem.run_bind, Instr.sliceAt, run_und hu, Result.andThen_ok, Instr.sureAddr, Sem.run_pure, Option.map_none]
              rw [run_bounds2 hr hg hf hl hhh hbl hbh h1 h2]
              simp only [Result.andThen_ok, run_size hti, hts, addr_if]
            · simp only [VR]; exact ⟨hok, rfl⟩
          · cases hk'
        · cases hk'
      · cases hk'
    · cases h
  · cases h
end
end Ax
namespace Ax
open Go
section
variable {P : Program} {G : Nat} {hole : Nat → Prop} {σ : Sig} {s s' : St} {w : World} {v : AV} {fr : Tr AV} {a : Act} {call : CallT} {D : Dom}
theorem foldl_over (off : Nat) : ∀ (l : List Value) (k : Nat) (cells : Array Value), off + k + l.length ≤ cells.size →
    ((l.zipIdx k).foldl (fun cs (x : Value × Nat) => cs.setIfInBounds (off + x.2) x.1) cells).toList = cells.toList.take (off + k) ++ l ++ cells.toList.drop (off + k + l.length)
  | [], k, cells, _ => by simp
  | x :: l, k, cells, h => by
    simp only [List.length_cons] at h
    simp only [List.zipIdx_cons, List.foldl_cons]
    rw [foldl_over off l (k + 1) _ (by rw [Array.size_setIfInBounds]; omega)]
    simp only [Array.toList_setIfInBounds, List.length_cons]
    exact list_store cells.toList (off + k) x l (by simpa using h)
theorem fill_step (off : Nat) (vs cells : Array Value) (h : off + vs.size ≤ cells.size) :
    (vs.zipIdx.foldl (fun cs (c, j) => cs.setIfInBounds (off + j) c) cells).toList = cells.toList.take off ++ vs.toList ++ cells.toList.drop (off + vs.size) := by
  have := foldl_over off vs.toList 0 cells (by simpa using h)
  rw [← Array.foldl_toList, Array.toList_zipIdx]
  simpa using this
theorem fills_ok (hr : Rep G hole σ s w) (hg : ∀ g, g < G → ¬ hole g) (hf : FR σ ⟨s.next, hole⟩ fr a.tmps) {place place' : Nat → Option (Nat × Nat)} (hp : ∀ i x, place i = some x → place' i = some x) :
    ∀ (parts : List (Nat × Operand)) (ps : List (Nat × Nat × IArg)) (z l : List AV) (zs : Array Value), partsOf G place parts = some ps → fills fr z ps = some l → VRs σ ⟨s.next, hole⟩ z zs.toList →
      ∃ cells, Instr.fill place' zs (parts.map fun x => (x.1, a.eval x.2)) = some cells ∧ VRs σ ⟨s.next, hole⟩ l cells.toList ∧ cells.size = zs.size
  | [], ps, z, l, zs, h1, h2, h3 => by
    simp only [partsOf, Option.some.injEq] at h1
    subst h1
    simp only [fills, Option.some.injEq] at h2
    subst h2
    exact ⟨zs, rfl, h3, rfl⟩
  | (i, x) :: parts, ps, z, l, zs, h1, h2, h3 => by
    simp only [partsOf] at h1
    split at h1
    · rename_i o n ia ps' hpl hia hps
      cases h1
      simp only [fills] at h2
      split at h2
      · rename_i hlen
        split at h2
        · rename_i z' hz'
          have hv := ta_ok hr hg hf hia
          have hc := cells_ok hv
          have hn : (cellsOf (ev fr ia)).length = n := by rw [llen_eq] at hlen; exact beq_iff.1 hlen
          have hcs : (a.eval x).cells.size = n := by have := VRs_len hc; simpa [hn] using this
          obtain ⟨hle, rfl⟩ := lsets_ok hz'
          have hzl := VRs_len h3
          simp only [Array.length_toList] at hzl
          have hfit : o + (a.eval x).cells.size ≤ zs.size := by rw [hcs, hzl, ← hn]; exact hle
          have hstep := fill_step o (a.eval x).cells zs hfit
          obtain ⟨cells, r1, r2, r3⟩ := fills_ok hr hg hf hp parts ps' _ l ((a.eval x).cells.zipIdx.foldl (fun cs (c, j) => cs.setIfInBounds (o + j) c) zs) hps h2 (by
            rw [hstep]
            have e : (a.eval x).cells.size = (cellsOf (ev fr ia)).length := by rw [hcs, hn]
            rw [e]
            exact VRs_append (VRs_append (VRs_take o h3) hc) (VRs_drop _ h3))
          refine ⟨cells, ?_, r2, ?_⟩
          · simp only [List.map_cons, Instr.fill, hp _ _ hpl]
            rw [if_neg (by simp [hcs]; omega)]
            exact r1
          · have hsz : ((a.eval x).cells.zipIdx.foldl (fun cs (c, j) => cs.setIfInBounds (o + j) c) zs).size = zs.size := by
              have : ((a.eval x).cells.zipIdx.foldl (fun cs (c, j) => cs.setIfInBounds (o + j) c) zs).toList.length = zs.toList.length := by rw [hstep]; simp; omega
              simpa using this
            rw [r3, hsz]
        · cases h2
      · cases h2
    · cases h1
theorem places_of (P : Program) : ∀ (fs : List Field), allSized P fs = true → ∃ pl, fs.mapM (fun f => (P.info? f.type).map fun i => (f.offset, i.size)) = some pl ∧ ∀ (i : Nat) (f : Field), fs[i]? = some f → ∃ ti, P.info? f.type = some ti ∧ pl[i]? = some (f.offset, ti.size)
  | [], _ => ⟨[], by simp, by simp⟩
  | f :: fs, h => by
    simp only [allSized] at h
    split at h
    · rename_i ti hti
      obtain ⟨pl, h1, h2⟩ := places_of P fs h
      refine ⟨(f.offset, ti.size) :: pl, ?_, ?_⟩
      · simp [List.mapM_cons, hti, h1]
      · intro i g hg
        cases i with
        | zero => simp at hg; subst hg; exact ⟨ti, hti, rfl⟩
        | succ i => simp at hg ⊢; exact h2 i g hg
    · cases h
theorem S_build (hr : Rep G hole σ s w) (hg : ∀ g, g < G → ¬ hole g) (hf : FR σ ⟨s.next, hole⟩ fr a.tmps) {t : TypeId} {parts : Array (Nat × Operand)} {k : IK} (h : trBuild P G t parts.toList = some k) (hk : stepK k call fr s = some (v, s')) :
    Does G hole σ s w v s' ((do pure (.value (← Instr.build t (parts.map fun (i, x) => (i, a.eval x)))) : Sem Next).run P w) := by
  have fin : ∀ (cells : Array Value) (l : List AV), P.built t (parts.map fun (i, x) => (i, a.eval x)).toList = some cells → VRs σ ⟨s.next, hole⟩ l cells.toList → v = .agg l → s' = s →
      Does G hole σ s w v s' ((do pure (.value (← Instr.build t (parts.map fun (i, x) => (i, a.eval x)))) : Sem Next).run P w) := by
    intro cells l h1 h2 h3 h4
    subst h3 h4
    refine Does.pure (u := .agg cells) hr ?_ (by simp only [VR]; exact ⟨_, rfl, h2⟩)
    rw [Sem.run_bind, run_build w t _ cells h1]; rfl
  have hmap : (parts.map fun (i, x) => (i, a.eval x)).toList = parts.toList.map fun x => (x.1, a.eval x.2) := by simp
  unfold trBuild at h
  split at h
  · rename_i fs z hu hz
    split at h
    · rename_i ps hall hps
      cases h
      obtain ⟨hk', h4⟩ := ret_ok hk
      unfold doBuild at hk'
      split at hk'
      · rename_i l hl
        cases hk'
        obtain ⟨ti, zv, hti, hzv, hzr⟩ := zeroOf_ok hz
        obtain ⟨pl, hpl, hpl2⟩ := places_of P fs.toList hall
        obtain ⟨cells, r1, r2, _⟩ := fills_ok (place' := (pl.toArray[·]?)) hr hg hf (by
          intro i x hx
          unfold fieldPlaces at hx
          split at hx
          · rename_i f hfi
            split at hx
            · rename_i n hn
              cases hx
              obtain ⟨ti', hti', hpi⟩ := hpl2 i f (by simpa using hfi)
              obtain ⟨ti'', hti'', rfl⟩ := sizeO_ok hn
              rw [hti'] at hti''; cases hti''
              simpa using hpi
            · cases hx
          · cases hx) parts.toList ps z l zv.cells hps hl (hzr _ _)
        refine fin cells l ?_ r2 rfl h4
        unfold Program.built
        simp only [hti, hu, hzv, hpl]
        rw [hmap]; exact r1
      · cases hk'
    · cases h
  · rename_i n e z hu hz
    split at h
    · rename_i m hm
      split at h
      · rename_i ps hps
        cases h
        obtain ⟨hk', h4⟩ := ret_ok hk
        unfold doBuild at hk'
        split at hk'
        · rename_i l hl
          cases hk'
          obtain ⟨ti, zv, hti, hzv, hzr⟩ := zeroOf_ok hz
          obtain ⟨te, hte, rfl⟩ := sizeO_ok hm
          obtain ⟨cells, r1, r2, _⟩ := fills_ok (place' := fun i => some (i * te.size, te.size)) hr hg hf (fun i x hx => hx) parts.toList ps z l zv.cells hps hl (hzr _ _)
          refine fin cells l ?_ r2 rfl h4
          unfold Program.built
          simp only [hti, hu, hzv, hte]
          rw [hmap]; exact r1
        · cases hk'
      · cases h
    · cases h
  · cases h
end
end Ax
namespace Ax
open Go
section
variable {P : Program} {G : Nat} {hole : Nat → Prop} {σ : Sig} {s s' : St} {w : World} {v : AV} {fr : Tr AV} {a : Act} {call : CallT} {D : Dom}
theorem rows_eq (zs : Array Value) (hn : zs.size ≠ 0) : ∀ len, ((Array.range (len * zs.size)).map (zs[· % zs.size]!)).toList = (List.replicate len zs.toList).flatten
  | 0 => by simp
  | len + 1 => by
    have ih := rows_eq zs hn len
    rw [Array.toList_map, Array.toList_range] at ih ⊢
    rw [Nat.add_mul, Nat.one_mul, List.range_add, List.map_append, ih, List.replicate_succ', List.flatten_append]
    congr 1
    rw [List.map_map, List.flatten_cons, List.flatten_nil, List.append_nil]
    apply List.ext_getElem?
    intro i
    rw [List.getElem?_map]
    by_cases h : i < zs.size
    · rw [List.getElem?_range h]
      simp only [Option.map_some, Function.comp_apply, Nat.mul_add_mod_self_right, Nat.mod_eq_of_lt h]
      simp [h]
    · rw [List.getElem?_eq_none (by simp; omega), List.getElem?_eq_none (by simp; omega)]; rfl
theorem zero_cells_eq (z : Array Value) (n : Nat) (h : z.size ≠ 0) : (Builtin.zeroCells z n).toList = (List.replicate n z.toList).flatten := rows_eq z h n
theorem VRs_rep {z : List AV} {zs : Array Value} (h : VRs σ D z zs.toList) (n : Nat) : VRs σ D (lrep n z) (List.replicate n zs.toList).flatten := VRs_lrep h n
theorem slc_new {n B size len c : Nat} (hn : ¬ hole n) : VR (σ.at n B 0 size) ⟨n + 1, hole⟩ (.slc n 0 len (.ex c)) (.slice (some ⟨B, 0, none⟩) len c) := by
  simp only [VR]
  exact ⟨⟨Nat.lt_succ_self n, hn⟩, by simp only [Sig.addr, Sig.at_self, Nat.zero_add]⟩
theorem slc_newG {n B size len c sz c' : Nat} (hn : ¬ hole n) (h1 : c ≤ c') (h2 : c' * sz ≤ size) : VR (σ.at n B 0 size) ⟨n + 1, hole⟩ (.slc n 0 len (.ge c sz)) (.slice (some ⟨B, 0, none⟩) len c') := by
  simp only [VR]
  exact ⟨⟨Nat.lt_succ_self n, hn⟩, c', h1, by simp only [Sig.at_self]; omega, by simp only [Sig.addr, Sig.at_self, Nat.zero_add]⟩
theorem S_buildSlice (hr : Rep G hole σ s w) (hg : ∀ g, g < G → ¬ hole g) (hf : FR σ ⟨s.next, hole⟩ fr a.tmps) {t : TypeId} {len : Nat} {parts : Array (Nat × Operand)} {k : IK} (h : trBuildSlice P G t len parts.toList = some k) (hk : stepK k call fr s = some (v, s')) (hh : ¬ hole s.next) :
    Does G hole σ s w v s' ((do pure (.value (← Instr.buildSlice t len (parts.map fun (i, x) => (i, a.eval x)))) : Sem Next).run P w) := by
  have hmap : (parts.map fun (i, x) => (i, a.eval x)).toList = parts.toList.map fun x => (x.1, a.eval x.2) := by simp
  unfold trBuildSlice at h
  split at h
  · rename_i e hu
    split at h
    · rename_i n z hsz hz
      split at h
      · rename_i ps hps hzl hsmall hn0
        cases h
        have hk' : doBuildSlice s fr e (lrep len z) len ps = some (v, s') := hk
        unfold doBuildSlice at hk'
        split at hk'
        · rename_i l hl
          obtain ⟨ti, hti, hts⟩ := sizeO_ok hsz
          obtain ⟨ti', zv, hti', hzv, hzr⟩ := zeroOf_ok hz
          rw [hti] at hti'; cases hti'
          have hn : n ≠ 0 := beq_false_iff.1 hn0
          have hzn : zv.cells.size = n := by
            have h1 := VRs_len (hzr σ ⟨s.next, hole⟩)
            rw [llen_eq] at hzl
            have h2 := beq_iff.1 hzl
            simpa [h2] using h1
          have hrow := VRs_rep (hzr σ ⟨s.next, hole⟩) len
          have hrows := rows_eq zv.cells (by omega) len
          rw [hzn] at hrows
          obtain ⟨cells, r1, r2, r3⟩ := fills_ok (place' := fun i => some (i * n, n)) hr hg hf (fun i x hx => hx) parts.toList ps (lrep len z) l ((Array.range (len * n)).map (zv.cells[· % n]!)) hps hl (by rw [hrows]; exact hrow)
          obtain ⟨rfl, h2, h3, h4⟩ := new_cells (pad := []) (f₀ := 0) (f₁ := 0) hr hk' r2 (w' := w.alloc (.cells cells e)) (by show w.heap.push _ = _; simp) (by omega) rfl rfl rfl
          refine ⟨.slice (some ⟨w.heap.size, 0, none⟩) len len, _, _, [], .inl ?_, ?_, by simpa using h2, h4⟩
          · have hle : ¬ (len * n > 2 ^ 24) := by have := ble_iff.1 hsmall; omega
            by_cases hz0 : len * n = 0
            · have e0 : (Array.range (len * n)).map (zv.cells[· % n]!) = #[] := by rw [hz0]; simp
              rw [e0] at r1
              simp only [Sem.run_bind, Instr.buildSlice, run_und hu, Result.andThen_ok, run_size hti, hts, Sem.run_ite, hz0, if_true, Sem.run_pure]
              have e1 : (Array.range 0).map ((#[] : Array Value)[· % (#[] : Array Value).size]!) = #[] := by simp
              rw [e1, hmap, r1]
              simp only [Sem.run_bind, run_newRow, Result.andThen_ok, Sem.run_pure]
              rw [if_neg (by decide)]; rfl
            · simp only [Sem.run_bind, Instr.buildSlice, run_und hu, Result.andThen_ok, run_size hti, hts, Sem.run_ite, hle, if_false, hz0, run_zero hti hzv, Sem.run_pure, hzn]
              rw [hmap, r1]
              simp only [Sem.run_bind, run_newRow, Result.andThen_ok, Sem.run_pure]
          · rw [h3]; exact slc_new hh
        · cases hk'
      · cases h
    · cases h
  · cases h
theorem wrap_small (n : Nat) (h : n ≤ big) : IntKind.i64.wrap (n : Int) = n := by
  have : wrapA .i64 (n : Int) = n := by
    show wrapS 9223372036854775808 .i64 (Int.ofNat n) = _
    simp only [wrapS]
    rw [show Nat.ble 9223372036854775808 n = false from ble_false_iff.2 (by unfold big at h; omega)]; rfl
  rw [← wrapA_eq]; exact this
theorem S_makeSlice (hr : Rep G hole σ s w) (hg : ∀ g, g < G → ¬ hole g) (hf : FR σ ⟨s.next, hole⟩ fr a.tmps) {t : TypeId} {x y : Operand} {k : IK} (h : trMakeSlice P G t x y = some k) (hk : stepK k call fr s = some (v, s')) (hh : ¬ hole s.next) :
    Does G hole σ s w v s' ((do pure (.value (← Instr.makeSlice t (a.eval x) (a.eval y))) : Sem Next).run P w) := by
  unfold trMakeSlice at h
  split at h
  · rename_i e hu
    split at h
    · rename_i ti z hti hz
      split at h
      · rename_i hb hzl hn0
        obtain ⟨i, j, hi, hj, rfl⟩ := m2_ok h
        have hk' : doMakeSlice s e z (ev fr i) (ev fr j) = some (v, s') := hk
        have hvi := ta_ok hr hg hf hi
        have hvj := ta_ok hr hg hf hj
        unfold doMakeSlice at hk'
        split at hk'
        · rename_i k1 l heq1
          split at hk'
          · rename_i k2 c heq2
            split at hk'
            · rename_i hlc hcb
              rw [heq1] at hvi; rw [heq2] at hvj
              have el := VR_int.1 hvi
              have ec := VR_int.1 hvj
              have hlc' := ble_iff.1 hlc
              have hcb' := ble_iff.1 hcb
              have hbytes := ble_iff.1 hb
              have hn : ti.size ≠ 0 := beq_false_iff.1 hn0
              obtain ⟨ti', zv, hti', hzv, hzr⟩ := zeroOf_ok hz
              rw [hti] at hti'; cases hti'
              have hzn : zv.cells.size = ti.size := by
                have h1 := VRs_len (hzr σ ⟨s.next, hole⟩)
                rw [llen_eq] at hzl
                have h2 := beq_iff.1 hzl
                simpa [h2] using h1
              have hrow := VRs_rep (hzr σ ⟨s.next, hole⟩) c
              have hrows := rows_eq zv.cells (by omega) c
              have htl : ∀ n : Nat, n ≤ big → (decide ((n : Int) < 0) || decide ((ti.bytes : Int) * (n : Int) > 2 ^ 48)) = false := by
                intro n hn'
                have h1 : ti.bytes * n ≤ 1099511627776 := Nat.le_trans (Nat.mul_le_mul hbytes hn') (by decide)
                have h2 : (ti.bytes : Int) * (n : Int) ≤ 1099511627776 := by rw [← Int.natCast_mul]; omega
                simp; omega
              have wl : IntKind.i64.wrap (Int.ofNat l) = (l : Int) := wrap_small l (Nat.le_trans hlc' hcb')
              have wc : IntKind.i64.wrap (Int.ofNat c) = (c : Int) := wrap_small c hcb'
              have run : ∀ cells : Array Value, cells.toList = (List.replicate c zv.cells.toList).flatten → (Instr.makeSlice t (a.eval x) (a.eval y)).run P w = .ok (.slice (some ⟨w.heap.size, 0, none⟩) l c) (w.alloc (.cells cells e)) := by
                intro cells hcells
                rw [el, ec]
                simp only [Instr.makeSlice, Sem.run_bind, run_und hu, Result.andThen_ok, asInt, asIntOf, Sem.run_pure, run_info hti, wl, wc]
                have c1 : ((decide ((c : Int) < 0) || decide ((ti.bytes : Int) * (c : Int) > 2 ^ 48)) || decide ((l : Int) < 0) || decide ((l : Int) > (c : Int))) = false := by
                  rw [htl c hcb']; simp; omega
                have c2 : ¬ ((((decide ((c : Int) < 0) || decide ((ti.bytes : Int) * (c : Int) > 2 ^ 48)) || decide ((l : Int) < 0) || decide ((l : Int) > (c : Int))) = true)) := by rw [c1]; simp
                simp only [Sem.run_ite, if_neg c2, Sem.run_bind, run_askRoom, Result.andThen_ok, run_size hti, Int.toNat_natCast]
                by_cases hz0 : c * ti.size = 0
                · simp only [hz0, if_true, Sem.run_pure, Result.andThen_ok, run_newRow]
                  have hc0 : c = 0 := by rcases Nat.mul_eq_zero.1 hz0 with h | h; exact h; exact absurd h hn
                  have : cells = #[] := by
                    apply Array.ext'
                    rw [hcells, hc0]; rfl
                  have e1 : (Array.range 0).map ((#[] : Array Value)[· % (#[] : Array Value).size]!) = #[] := by simp
                  rw [this, e1]
                · simp only [hz0, if_false, run_zero hti hzv, Sem.run_pure, Result.andThen_ok, run_newRow]
                  have : cells = (Array.range (c * ti.size)).map (zv.cells[· % zv.cells.size]!) := by
                    apply Array.ext'
                    rw [hcells, ← hrows, hzn]
                  rw [this]
              have hvr : VRs σ ⟨s.next, hole⟩ (lrep c z) ((List.replicate c zv.cells.toList).flatten) := hrow
              obtain ⟨rfl, h2, h3, h4⟩ := new_cells (pad := []) (f₀ := 0) (f₁ := 0) hr hk' hvr (w' := w.alloc (.cells ((List.replicate c zv.cells.toList).flatten).toArray e)) (by show w.heap.push _ = _; rw [List.append_nil]) (by omega) rfl rfl rfl
              refine ⟨.slice (some ⟨w.heap.size, 0, none⟩) l c, _, _, [], .inl ?_, ?_, by simpa using h2, h4⟩
              · rw [Sem.run_bind, run _ rfl]; rfl
              · rw [h3]; exact slc_new hh
            · cases hk'
          · cases hk'
        · cases hk'
      · cases h
    · cases h
  · cases h
end
end Ax
namespace Ax
open Go
section
variable {P : Program} {G : Nat} {hole : Nat → Prop} {σ : Sig} {s s' : St} {w : World} {v : AV} {fr : Tr AV} {a : Act} {call : CallT} {D : Dom}
theorem strCells_eq : ∀ l : List Nat, strCells l = l.map fun n => AV.int .u8 (.ofNat n)
  | [] => rfl
  | n :: l => by simp only [strCells, List.map_cons, strCells_eq l]
def strVals (t : ByteArray) : Array Value := t.data.map fun (b : UInt8) => Value.int .u8 (b.toNat : Nat)
theorem strVals_size (t : ByteArray) : (strVals t).size = t.size := by simp [strVals]
theorem VRs_str (t : ByteArray) : VRs σ D (strCells (t.data.toList.map UInt8.toNat)) (strVals t).toList := by
  rw [strCells_eq, strVals, Array.toList_map, List.map_map]
  generalize t.data.toList = l
  induction l with
  | nil => simp [VRs]
  | cons b l ih => simp only [List.map_cons]; exact VRs_cons'.2 ⟨VR_int.2 rfl, ih⟩
theorem heap_freeze (w : World) (c : Array Value) (e : TypeId) (n : Nat) : ((w.alloc (.cells c e)).freeze ⟨w.heap.size, n, none⟩ 1).heap = w.heap.push (.cells c e (n, n + 1)) := by
  unfold World.freeze
  rw [if_neg (by decide)]
  apply Array.ext_getElem?
  intro i
  show ((w.heap.push (.cells c e)).modify _ _)[i]? = _
  rw [Array.getElem?_modify]
  by_cases h : w.heap.size = i
  · subst h; rw [if_pos rfl, Array.getElem?_push_size, Array.getElem?_push_size]; rfl
  · rw [if_neg h, Array.getElem?_push, Array.getElem?_push, if_neg (Ne.symm h), if_neg (Ne.symm h)]
theorem asNats_ok : ∀ {c : List AV} {l : List Nat} {us : List Value}, asNats c = some l → VRs σ D c us → us = l.map (fun n => Value.int .u8 (n : Nat)) ∧ ∀ n ∈ l, n < 256
  | [], l, us, h, hu => by
    simp only [asNats, Option.some.injEq] at h
    subst h
    rw [VRs_nil] at hu; subst hu
    exact ⟨rfl, by simp⟩
  | a :: c, l, us, h, hu => by
    obtain ⟨u, us', rfl, h1, h2⟩ := VRs_cons.1 hu
    unfold asNats at h
    split at h
    · rename_i heq; cases heq
    · rename_i n r heq
      injection heq with e1 e2
      subst e1 e2
      split at h
      · cases h
      · rename_i hb
        split at h
        · rename_i l' hl'
          cases h
          obtain ⟨e, hlt⟩ := asNats_ok hl' h2
          have := VR_int.1 h1; subst this
          subst e
          refine ⟨rfl, fun m hm => ?_⟩
          cases hm with
          | head => exact ble_false_iff.1 hb
          | tail _ hm => exact hlt m hm
        · cases h
    · cases h
theorem bytes_back (l : List Nat) (h : ∀ n ∈ l, n < 256) :
    ((l.map fun n : Nat => (n : Int)).foldl (fun r n => r.push (UInt8.ofNat n.toNat)) ByteArray.empty).data.toList.map UInt8.toNat = l := by
  rw [foldl_push_bytes]
  simp only [ByteArray.data_empty, List.map_map]
  simp only [Array.empty_append, List.map_map]
  conv => rhs; rw [← List.map_id l]
  apply List.map_congr_left
  intro n hn
  simp [Nat.mod_eq_of_lt (h n hn)]
theorem seen_plain {b : Nat} {c : Array Value} {e : TypeId} {f : Nat × Nat} {o : Nat} (h : w.heap[b]? = some (.cells c e f)) : (Conv.seenAt ⟨b, o, none⟩).run P w = .ok ⟨b, o, none⟩ w := by
  have : (viewAt b).run P w = .ok none w := by simp [viewAt, World.shape?, h]
  simp [Conv.seenAt, this]
theorem S_convert (hr : Rep G hole σ s w) (hg : ∀ g, g < G → ¬ hole g) (hf : FR σ ⟨s.next, hole⟩ fr a.tmps) {src dst : TypeId} {x : Operand} {k : IK} (h : trConvert P G src dst x = some k) (hk : stepK k call fr s = some (v, s')) (hh : ¬ hole s.next) :
    Does G hole σ s w v s' ((do pure (.value (← convert src dst (a.eval x))) : Sem Next).run P w) := by
  unfold trConvert at h
  split at h
  · rename_i ks kd hs hd
    obtain ⟨i, hi, rfl⟩ := m1_ok h
    obtain ⟨hk', rfl⟩ := ret_ok hk
    obtain ⟨j, n, h1, h2⟩ := convInt_ok hk' (ta_ok hr hg hf hi)
    refine Does.pure hr ?_ h2
    rw [h1]
    simp only [Sem.run_bind, convert, run_und hs, run_und hd, Result.andThen_ok, Conv.intToInt, Sem.run_pure]
  · rename_i e hs hd
    split at h
    · rename_i hu8 hsz
      obtain ⟨i, hi, rfl⟩ := m1_ok h
      have hv := ta_ok hr hg hf hi
      have hk' : doStrBytes s e (ev fr i) = some (v, s') := hk
      unfold doStrBytes at hk'
      split at hk'
      · rename_i l heq
        rw [heq] at hv
        simp only [VR] at hv
        obtain ⟨t, ht, rfl⟩ := hv
        have hue : P.underlying e = some (.int .u8) := by
          unfold isU8 at hu8
          split at hu8
          · assumption
          · cases hu8
        have hcap : ∃ cap : Nat, t.size ≤ cap ∧ (convert src dst (.string t)).run P w = .ok (.slice (some ⟨w.heap.size, 0, none⟩) t.size cap)
            ((w.drew.alloc (.cells (strVals t ++ Array.replicate (cap - t.size) (Value.int .u8 0)) e)).freeze ⟨w.heap.size, (strVals t ++ Array.replicate (cap - t.size) (Value.int .u8 0)).size, none⟩ 1) := by
          refine ⟨t.size + (w.tape w.drawn (.appendCap t.size 0 e)) % (2 ^ 63 - t.size), Nat.le_add_right _ _, ?_⟩
          simp only [convert, Sem.run_bind, run_und hs, run_und hd, Result.andThen_ok, run_und hue, Conv.stringToBytes, run_choose, Question.forced, Bool.false_eq_true, if_false, Question.cut, run_newRow, markStringish, run_shape, World.shape?, Sem.run_pure]
          have e2 : ∀ o, (({ w with drawn := w.drawn + 1 } : World).alloc o).heap[w.heap.size]? = some o := fun o => by simp [World.alloc]
          simp only [e2, run_freeze, Result.andThen_ok]
          rfl
        obtain ⟨cap, hc1, hc2⟩ := hcap
        have hsize : (strVals t ++ Array.replicate (cap - t.size) (Value.int .u8 0)).size = cap := by
          simp [strVals_size]; omega
        rw [hsize] at hc2
        obtain ⟨rfl, h2, h3, h4⟩ := new_cells (pad := List.replicate (cap - t.size) (Value.int .u8 0)) (f₀ := cap) (f₁ := cap + 1) hr hk' (VRs_str t)
          (w' := (w.drew.alloc (.cells (strVals t ++ Array.replicate (cap - t.size) (Value.int .u8 0)) e)).freeze ⟨w.heap.size, cap, none⟩ 1) (by
            have := heap_freeze w.drew (strVals t ++ Array.replicate (cap - t.size) (Value.int .u8 0)) e cap
            rw [World.size_drew] at this
            rw [this]
            have e9 : (strVals t).toList ++ List.replicate (cap - t.size) (Value.int .u8 0) = (strVals t ++ Array.replicate (cap - t.size) (Value.int .u8 0)).toList := by simp
            rw [e9]; rfl) (by
            simp [strVals_size]; omega) (by simp only [World.freeze]; rfl) (by simp only [World.freeze]; rfl) (by simp only [World.freeze]; rfl)
        refine ⟨.slice (some ⟨w.heap.size, 0, none⟩) t.size cap, _, _, [], .inl ?_, ?_, by simpa using h2, h4⟩
        · rw [ht, Sem.run_bind, hc2]; rfl
        · rw [h3, llen_eq, str_len]
          refine slc_newG hh hc1 ?_
          simp [strVals_size]; omega
      · cases hk'
    · cases h
  · rename_i e hs hd
    split at h
    · rename_i hu8 hsz
      obtain ⟨i, hi, rfl⟩ := m1_ok h
      have hv := ta_ok hr hg hf hi
      have hk' : doBytesStr s (ev fr i) = some (v, s') := hk
      have hue : P.underlying e = some (.int .u8) := by
        unfold isU8 at hu8
        split at hu8
        · assumption
        · cases hu8
      unfold doBytesStr at hk'
      split at hk'
      · rename_i b o len cap heq
        split at hk'
        · rename_i l hl
          split at hk'
          · rename_i c hc
            split at hk'
            · rename_i t ht
              cases hk'
              rw [heq] at hv
              obtain ⟨cs, hlen, hcs, hcell⟩ := cut_ok hr hl hc
              obtain ⟨he, hlt⟩ := asNats_ok ht hcs
              have hload := run_loadCells_list (P := P) w (σ.addr b o) cs hcell
              rw [hlen] at hload
              have hx : ∃ cp, a.eval x = .slice (some (σ.addr b o)) len cp := by
                cases cap with
                | ex c => simp only [VR] at hv; exact ⟨c, hv.2⟩
                | ge c sz => simp only [VR] at hv; obtain ⟨_, c', _, _, hv⟩ := hv; exact ⟨c', hv⟩
              obtain ⟨cp, hx⟩ := hx
              have hcsEq : cs = (t.map fun n : Nat => (n : Int)).map (Value.int .u8) := by rw [he, List.map_map]; rfl
              rw [hcsEq] at hload
              have hrun := run_bytesToString w (σ.addr b o) len cp _ hload
              refine Does.pure hr (u := .string ((t.map fun n : Nat => (n : Int)).foldl (fun r n => r.push (UInt8.ofNat n.toNat)) ByteArray.empty)) ?_ ?_
              · rw [hx, Sem.run_bind, run_convert_bytes_string w src dst e _ _ _ hs hue hd, hrun]; rfl
              · simp only [VR]; exact ⟨_, rfl, bytes_back t hlt⟩
            · cases hk'
          · cases hk'
        · cases hk'
      · rename_i heq
        cases hk'
        rw [heq] at hv
        simp only [VR] at hv
        refine Does.pure hr (u := .string .empty) ?_ ?_
        · rw [hv, Sem.run_bind, run_convert_bytes_string w src dst e _ _ _ hs hue hd]; rfl
        · simp only [VR]; exact ⟨_, rfl, rfl⟩
      · cases hk'
    · cases h
  · rename_i e hs hd
    split at h
    · rename_i n hsz
      obtain ⟨i, hi, rfl⟩ := m1_ok h
      have hv := ta_ok hr hg hf hi
      have hk' : doToUns s (ev fr i) = some (v, s') := hk
      obtain ⟨ti, hti, hts⟩ := sizeO_ok hsz
      unfold doToUns at hk'
      split at hk'
      · rename_i b o heq
        split at hk'
        · rename_i l hl
          split at hk'
          · rename_i hb
            cases hk'
            rw [heq] at hv
            obtain ⟨c, ty, f, us, rest, h1, h2, h3, h4, h5⟩ := hcells_rep hr hl
            have hlen := VRs_len h5
            have hlt := ble_iff.1 hb
            rw [llen_eq] at hlt
            simp only [Nat.add_eq] at hlt
            have hoff : (σ b).2.1 + o < c.size := by
              have : (c.toList.drop (σ b).2.1).length = us.length + rest.length := by rw [h4]; simp
              simp at this; omega
            have hv' := hv
            simp only [VR] at hv'
            refine Does.pure hr ?_ hv
            rw [hv'.2]
            simp only [Sig.addr, Sem.run_bind, convert, run_und hs, run_und hd, Result.andThen_ok, Conv.unsafePointer, seen_plain h1, cellsIn, run_shape, World.shape?, h1, Sem.run_pure, run_size hti, hts]
            have : ¬ ((σ b).2.1 + o ≥ c.size) := by omega
            simp [this]
          · cases hk'
        · cases hk'
      · cases hk'
    · cases h
  · rename_i u hs hd
    split at h
    · rename_i n hsz
      obtain ⟨i, hi, rfl⟩ := m1_ok h
      have hv := ta_ok hr hg hf hi
      have hk' : doToPtr s u (n + 1) (alsoOf P u) (ev fr i) = some (v, s') := hk
      obtain ⟨ti, hti, hts⟩ := sizeO_ok hsz
      unfold doToPtr at hk'
      split at hk' <;> try (cases hk'; done)
      rename_i b o heq
      split at hk' <;> try (cases hk'; done)
      rename_i ty l hb
      split at hk' <;> try (cases hk'; done)
      rename_i ho
      have e2 := beq_iff.1 ho
      subst e2
      rw [heq] at hv
      obtain ⟨c, f, h1, h2, h3, us, rest, h4, h5, h6⟩ := (hr.objs b _ hb).2
      have hbase := hr.base b _ hb
      have hlen := VRs_len h6
      have hcl : llen l ≤ c.size := by
        have : (c.toList.drop (σ b).2.1).length = us.length + rest.length := by rw [h4]; simp
        rw [llen_eq]; simp at this; omega
      have hv' := hv
      simp only [VR] at hv'
      have hdep : ∃ d, P.depth = d + 2 := ⟨2 * (P.types.size + Made.depth), rfl⟩
      obtain ⟨d, hdep⟩ := hdep
      have hsame : ∀ d, sameLayout P (d + 1) u u = true := fun d => by rw [sameLayout]; simp
      have hcell : P.cellsOf u = n + 1 := by simp [Program.cellsOf, hti, hts]
      have inner : ∀ d q, 1 ≤ q → rowAt P (sameLayout P P.depth · u) (d + 1) u q 0 1 = true := fun d' q hq => by
        rw [rowAt, hcell]
        simp only [Nat.succ_ne_zero, if_false, Nat.zero_mod, Nat.zero_div, Nat.zero_add, beq_self_eq_true, Bool.true_and]
        have : sameLayout P P.depth u u = true := by rw [hdep]; exact hsame _
        rw [this]
        simp [hq]
      have hlies : v = .ptr b 0 ∧ s' = s ∧ liesAt P P.depth ty (c.size / P.cellsOf ty) 0 u 1 = true := by
        split at hk'
        · rename_i hty
          have e1 := beq_iff.1 hty
          subst e1
          split at hk' <;> try (cases hk'; done)
          rename_i hle
          cases hk'
          refine ⟨rfl, rfl, ?_⟩
          have hle' := ble_iff.1 hle
          have hq : 1 ≤ c.size / (n + 1) := (Nat.le_div_iff_mul_le (by omega)).2 (by omega)
          have := inner (d + 1) (c.size / P.cellsOf u) (by rw [hcell]; exact hq)
          rw [hdep] at this ⊢
          rw [liesAt, hdep, this]; rfl
        · split at hk' <;> try (cases hk'; done)
          rename_i m hp
          split at hk' <;> try (cases hk'; done)
          rename_i hle
          cases hk'
          refine ⟨rfl, rfl, ?_⟩
          have hle' := ble_iff.1 hle
          have hmem : (ty, m) ∈ alsoOf P u := by
            generalize alsoOf P u = q at hp
            induction q with
            | nil => cases hp
            | cons x q ih =>
              obtain ⟨x1, x2⟩ := x
              simp only [pairAt] at hp
              split at hp
              · rename_i hx
                cases hp
                rw [beq_iff.1 hx]; exact List.mem_cons_self ..
              · exact List.mem_cons_of_mem _ (ih hp)
          unfold alsoOf at hmem
          obtain ⟨e, _, he⟩ := List.mem_filterMap.1 hmem
          unfold alsoAt at he
          split at he <;> try (cases he; done)
          rename_i fs hfs
          split at he <;> try (cases he; done)
          rename_i f0 hf0
          split at he <;> try (cases he; done)
          rename_i k1 k2 k3 k4
          simp only [Option.some.injEq, Prod.mk.injEq] at he
          obtain ⟨rfl, rfl⟩ := he
          have j1 := beq_iff.1 k1
          have j2 := beq_iff.1 k2
          have j4 := ble_iff.1 k4
          have hq : 1 ≤ c.size / P.cellsOf e := (Nat.le_div_iff_mul_le (by omega)).2 (by omega)
          have hrow : rowAt P (sameLayout P P.depth · u) (d + 2) e (c.size / P.cellsOf e) 0 1 = true := by
            rw [rowAt]
            have hne : ¬ P.cellsOf e = 0 := by omega
            simp only [hne, if_false, Nat.zero_mod, Nat.zero_div, Nat.zero_add]
            rw [Bool.or_eq_true]
            right
            rw [Bool.and_eq_true]
            refine ⟨decide_eq_true (Nat.lt_of_lt_of_le Nat.zero_lt_one hq), ?_⟩
            simp only [hfs]
            rw [k3]
            simp only [Bool.not_false, Bool.true_and]
            rw [Array.any_eq_true]
            obtain ⟨h0, rfl⟩ := Array.getElem?_eq_some_iff.1 hf0
            refine ⟨0, h0, ?_⟩
            have j3 := inner d 1 (Nat.le_refl _)
            rw [j2, j1, hcell]
            simpa using j3
          rw [hdep] at hrow ⊢
          rw [liesAt, hdep, hrow]; rfl
      obtain ⟨rfl, rfl, hlies⟩ := hlies
      refine Does.pure hr ?_ hv
      rw [hv'.2]
      simp only [Sig.addr, hbase, Nat.add_zero, Sem.run_bind, convert, run_und hs, run_und hd, Result.andThen_ok, Conv.unsafePointer, seen_plain h1, run_size hti, hts]
      simp only [variablesAt, Sem.run_bind, run_program, run_shape, World.shape?, h1, Result.andThen_ok, Sem.run_pure, hlies]
      simp
    · cases h
  · cases h
end
end Ax
