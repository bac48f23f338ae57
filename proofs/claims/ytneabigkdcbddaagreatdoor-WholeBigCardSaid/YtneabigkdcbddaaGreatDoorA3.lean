/- Each operation, one by one: those that leave the world alone. · Numbers: what we reckon is what the model reckons. · Two operands: numbers, texts. · Equality; keys of maps. · Memory: loads and stores. · Memory: what is written, what is new. -/
import Derived.Test.YtneabigkdcbddaaGreatDoorA2
import Derived.Laws.StructEq
import Derived.MapKept
set_option linter.unusedVariables false
set_option linter.unusedSimpArgs false
set_option linter.unusedSectionVars false
set_option linter.unnecessarySimpa false
namespace Ax
open Go

/-- what an operation's run is to be -/
def Does (G : Nat) (hole : Nat → Prop) (σ : Sig) (s : St) (w : World) (v : AV) (s' : St) (r : Result Next) : Prop :=
  ∃ u w' σ' log, (r = .ok (.value u) w' ∨ (r = .ok .skip w' ∧ u = undef)) ∧ VR σ' ⟨s'.next, hole⟩ v u ∧ s'.wlog = log ++ s.wlog ∧ Post G hole σ s w log σ' s' w'
section
variable {G : Nat} {hole : Nat → Prop} {σ : Sig} {s s' : St} {w : World} {v : AV} {P : Program}
theorem Does.pure {u : Value} {r : Result Next} (hr : Rep G hole σ s w) (h : r = .ok (.value u) w) (hv : VR σ ⟨s.next, hole⟩ v u) : Does G hole σ s w v s r :=
  ⟨u, w, σ, [], .inl h, hv, by simp, Post.refl hr⟩
theorem ret_ok {o : Option AV} (h : ret s o = some (v, s')) : o = some v ∧ s' = s := by
  cases o with
  | none => cases h
  | some x => simp only [ret, Option.some.injEq, Prod.mk.injEq] at h; exact ⟨by rw [h.1], h.2.symm⟩
variable {D : Dom}
theorem pick_ok {c a b : AV} {uc ua ub : Value} (h : doPick c a b = some v) (hc : VR σ D c uc) (ha : VR σ D a ua) (hb : VR σ D b ub) :
    ∃ t, uc = .bool t ∧ VR σ D v (if t then ua else ub) := by
  unfold doPick at h
  split at h
  · cases h; simp only [VR] at hc; exact ⟨true, hc, by simpa using ha⟩
  · cases h; simp only [VR] at hc; exact ⟨false, hc, by simpa using hb⟩
  · cases h
theorem fieldAddr_ok {off : Nat} {a : AV} {u : Value} (h : doFieldAddr off a = some v) (ha : VR σ D a u) :
    ∃ B o, u = .pointer (some ⟨B, o, none⟩) ∧ VR σ D v (.pointer (some ⟨B, o + off, none⟩)) := by
  unfold doFieldAddr at h
  split at h
  · rename_i b o
    cases h
    simp only [VR] at ha
    obtain ⟨hb, rfl⟩ := ha
    refine ⟨_, _, rfl, ?_⟩
    simp only [VR]
    exact ⟨hb, by simp only [Sig.addr, Nat.add_eq, Nat.add_assoc]⟩
  · cases h
theorem nilCheck_ok {a : AV} {u : Value} {s : St} (h : doNilCheck s a = some (v, s')) (ha : VR σ D a u) :
    v = a ∧ s' = s ∧ u ≠ .pointer none ∧ u ≠ .nilIface ∧ u ≠ .nilFunc ∧ (∀ x y z, u ≠ .func (.method x) y z) := by
  unfold doNilCheck at h
  split at h <;> try (cases h; done)
  rename_i h1 h2 h3 h4
  cases h
  refine ⟨rfl, rfl, ?_⟩
  cases v with
  | nil k => cases k with
    | p => exact absurd rfl h1
    | i => exact absurd rfl h2
    | f => exact absurd rfl h3
    | s => simp only [VR] at ha; subst ha; simp
    | m => simp only [VR] at ha; subst ha; simp
  | slc b o len c => cases c with
    | ex c => simp only [VR] at ha; obtain ⟨_, rfl⟩ := ha; simp
    | ge c sz => simp only [VR] at ha; obtain ⟨_, _, _, _, rfl⟩ := ha; simp
  | bool b => simp only [VR] at ha; subst ha; simp
  | int k n => simp only [VR] at ha; subst ha; simp
  | str l => simp only [VR] at ha; obtain ⟨_, rfl, _⟩ := ha; simp
  | ptr b o => simp only [VR] at ha; obtain ⟨_, rfl⟩ := ha; simp
  | map b => simp only [VR] at ha; obtain ⟨_, rfl⟩ := ha; simp
  | fn f cap => simp only [VR] at ha; obtain ⟨_, rfl, _⟩ := ha; simp
  | ifc t v => simp only [VR] at ha; obtain ⟨_, rfl, _⟩ := ha; simp
  | agg l => simp only [VR] at ha; obtain ⟨_, rfl, _⟩ := ha; simp
  | tup l => simp only [VR] at ha; obtain ⟨_, rfl, _⟩ := ha; simp
  | any => exact absurd rfl h4
  | emp => simp only [VR] at ha; obtain ⟨_, _, rfl⟩ := ha; simp
theorem field_ok {off : Nat} {a : AV} {u : Value} (h : doField off a = some v) (ha : VR σ D a u) :
    ∃ cs : Array Value, u = .agg cs ∧ ∃ x, cs[off]? = some x ∧ VR σ D v x := by
  unfold doField at h
  split at h
  · rename_i l
    rw [lget_eq] at h
    simp only [VR] at ha
    obtain ⟨cs, rfl, hl⟩ := ha
    obtain ⟨x, hx, hv⟩ := VRs_get hl h
    exact ⟨cs, rfl, x, by simpa using hx, hv⟩
  · cases h
theorem fieldN_ok {off n : Nat} {a : AV} {u : Value} (h : doFieldN off n a = some v) (ha : VR σ D a u) :
    ∃ cs : Array Value, u = .agg cs ∧ VR σ D v (.agg (cs.extract off (off + n))) := by
  unfold doFieldN at h
  split at h
  · rename_i l
    split at h
    · rename_i c hc
      cases h
      simp only [VR] at ha
      obtain ⟨cs, rfl, hl⟩ := ha
      obtain ⟨rfl, _⟩ := lcut_ok hc
      refine ⟨cs, rfl, ?_⟩
      simp only [VR]
      refine ⟨_, rfl, ?_⟩
      have := VRs_take n (VRs_drop off hl)
      rw [Array.toList_extract]
      simpa [List.extract_eq_take_drop] using this
    · cases h
  · cases h
theorem extract_ok {i : Nat} {a : AV} {u : Value} (h : doExtract a i = some v) (ha : VR σ D a u) :
    ∃ vs : Array Value, u = .tuple vs ∧ ∃ x, vs[i]? = some x ∧ VR σ D v x := by
  unfold doExtract at h
  split at h
  · rename_i l
    rw [lget_eq] at h
    simp only [VR] at ha
    obtain ⟨cs, rfl, hl⟩ := ha
    obtain ⟨x, hx, hv⟩ := VRs_get hl h
    exact ⟨cs, rfl, x, by simpa using hx, hv⟩
  · cases h
theorem idxAddrSl_ok {size : Nat} {a i : AV} {u x : Value} (h : doIdxAddrSl size a i = some v) (ha : VR σ D a u) (hi : VR σ D i x) :
    ∃ B o len cap k n, u = .slice (some ⟨B, o, none⟩) len cap ∧ x = .int k (n : Nat) ∧ n < len ∧ VR σ D v (.pointer (some ⟨B, o + n * size, none⟩)) := by
  unfold doIdxAddrSl at h
  split at h
  · rename_i b o len c
    split at h
    · rename_i k n
      split at h
      · rename_i hb
        cases h
        have hlt : n < len := by have := ble_iff.1 hb; simp only [Nat.add_eq] at this; omega
        simp only [VR] at hi
        subst hi
        have key : D.ok b → VR σ D (.ptr b (Nat.add o (Nat.mul n size))) (.pointer (some ⟨(σ b).1, (σ b).2.1 + o + n * size, none⟩)) := fun hb => by
          simp only [VR]; exact ⟨hb, by simp only [Sig.addr, Nat.add_eq, Nat.mul_eq, Nat.add_assoc]⟩
        cases c with
        | ex c => simp only [VR] at ha; obtain ⟨hb, rfl⟩ := ha; exact ⟨_, _, _, _, k, n, rfl, rfl, hlt, key hb⟩
        | ge c sz => simp only [VR] at ha; obtain ⟨hb, c', _, _, rfl⟩ := ha; exact ⟨_, _, _, _, k, n, rfl, rfl, hlt, key hb⟩
      · cases h
    · cases h
  · cases h
theorem idxAddrArr_ok {len size : Nat} {a i : AV} {u x : Value} (h : doIdxAddrArr len size a i = some v) (ha : VR σ D a u) (hi : VR σ D i x) :
    ∃ B o k n, u = .pointer (some ⟨B, o, none⟩) ∧ x = .int k (n : Nat) ∧ n < len ∧ VR σ D v (.pointer (some ⟨B, o + n * size, none⟩)) := by
  unfold doIdxAddrArr at h
  split at h
  · rename_i b o
    split at h
    · rename_i k n
      split at h
      · rename_i hb
        cases h
        have hlt : n < len := by have := ble_iff.1 hb; simp only [Nat.add_eq] at this; omega
        simp only [VR] at hi ha
        subst hi
        obtain ⟨hb, rfl⟩ := ha
        refine ⟨_, _, k, n, rfl, rfl, hlt, ?_⟩
        simp only [VR]
        exact ⟨hb, by simp only [Sig.addr, Nat.add_eq, Nat.mul_eq, Nat.add_assoc]⟩
      · cases h
    · cases h
  · cases h
theorem lgetN_eq : ∀ (l : List Nat) (n : Nat), lgetN l n = l[n]?
  | [], n => by simp [lgetN]
  | a :: l, n => by
    unfold lgetN
    cases n with
    | zero => rfl
    | succ n => rw [show Nat.beq (n + 1) 0 = false from rfl]; simp only [List.getElem?_cons_succ]; exact lgetN_eq l n
theorem idxStr_ok {a i : AV} {u x : Value} (h : doIdxStr a i = some v) (ha : VR σ D a u) (hi : VR σ D i x) :
    ∃ t k n c, u = .string t ∧ x = .int k (n : Nat) ∧ t[n]? = some c ∧ v = .int .u8 (c.toNat : Nat) := by
  unfold doIdxStr at h
  split at h
  · rename_i l
    split at h
    · rename_i k n
      split at h
      · rename_i c hc
        cases h
        simp only [VR] at hi ha
        subst hi
        obtain ⟨t, rfl, rfl⟩ := ha
        rw [lgetN_eq, List.getElem?_map, Option.map_eq_some_iff] at hc
        obtain ⟨c', hc', rfl⟩ := hc
        refine ⟨t, k, n, c', rfl, rfl, ?_, rfl⟩
        rw [Array.getElem?_toList] at hc'
        obtain ⟨hlt, he⟩ := Array.getElem?_eq_some_iff.1 hc'
        have : n < t.size := hlt
        rw [getElem?_pos t n this]
        exact congrArg some he
      · cases h
    · cases h
  · cases h
end
end Ax
namespace Ax
open Go
theorem iadd_eq (a b : Int) : iadd a b = a + b := by cases a <;> cases b <;> rfl
theorem isub_eq (a b : Int) : isub a b = a - b := by
  unfold isub
  split
  · rename_i m n
    split
    · rename_i h; have := ble_iff.1 h; simp only [Int.ofNat_eq_natCast, Nat.sub_eq]; omega
    · rename_i h; have := ble_false_iff.1 h; simp only [Int.ofNat_eq_natCast, Int.negSucc_eq, Nat.sub_eq]; omega
  · rfl
theorem imul_eq (a b : Int) : imul a b = a * b := by cases a <;> cases b <;> rfl
theorem ieq_eq (a b : Int) : ieq a b = (a == b) := by
  cases a <;> cases b
  · rename_i m n
    show Nat.beq m n = _
    by_cases h : m = n
    · subst h; simp
    · rw [beq_of_ne h]; symm; simp; omega
  · rename_i m n; show false = _; symm; simp
  · rename_i m n; show false = _; symm; simp
  · rename_i m n
    show Nat.beq m n = _
    by_cases h : m = n
    · subst h; simp
    · rw [beq_of_ne h]; symm; simp; omega
theorem ile_eq (a b : Int) : ile a b = decide (a ≤ b) := by
  cases a <;> cases b
  · rename_i m n
    show Nat.ble m n = _
    cases h : Nat.ble m n
    · have := ble_false_iff.1 h; symm; simp; omega
    · have := ble_iff.1 h; symm; simp; omega
  · rename_i m n; show false = _; symm; simp [Int.negSucc_eq]; omega
  · rename_i m n; show true = _; symm; simp [Int.negSucc_eq]; omega
  · rename_i m n
    show Nat.ble n m = _
    cases h : Nat.ble n m
    · have := ble_false_iff.1 h; symm; simp [Int.negSucc_eq]; omega
    · have := ble_iff.1 h; symm; simp [Int.negSucc_eq]; omega
theorem bnot_eq (b : Bool) : bnot b = !b := by cases b <;> rfl
theorem emod_negSucc (m M : Nat) (hM : 0 < M) : (Int.negSucc m) % (M : Int) = ((M - 1 - m % M : Nat) : Int) := by
  have h1 : m % M < M := Nat.mod_lt _ hM
  have h2 : (Int.negSucc m) = ((M - 1 - m % M : Nat) : Int) + (M : Int) * (-(1 + (m / M : Nat) : Int)) := by
    have e := Nat.div_add_mod m M
    have : ((M * (m / M) + m % M : Nat) : Int) = (m : Int) := by rw [e]
    push_cast at this
    rw [Int.negSucc_eq, Int.mul_neg, Int.mul_add]
    have h3 : ((M - 1 - m % M : Nat) : Int) = (M : Int) - 1 - (m % M : Nat) := by omega
    rw [h3]; push_cast; omega
  rw [h2, Int.add_mul_emod_self_left]
  exact Int.emod_eq_of_lt (by omega) (by omega)
theorem wrapU_eq (M : Nat) (hM : 0 < M) (n : Int) : wrapU M n = n % (M : Int) := by
  cases n with
  | ofNat m => rfl
  | negSucc m => rw [emod_negSucc m M hM]; rfl
theorem wrapS_eq (H : Nat) (k : IntKind) (n : Int) (hk : k.signed = true) (hb : (2 ^ (k.bits - 1) : Int) = H) (hB : (2 ^ k.bits : Int) = 2 * H) (hH : 0 < H) : wrapS H k n = k.wrap n := by
  unfold wrapS
  split
  · rename_i m
    split
    · rfl
    · rename_i h
      have := ble_false_iff.1 h
      unfold IntKind.wrap
      rw [hk, hb, hB]
      have e : (Int.ofNat m) % (2 * (H : Int)) = m := Int.emod_eq_of_lt (by simp) (by simp; omega)
      rw [e]
      simp; omega
  · rename_i m
    split
    · rfl
    · rename_i h
      have := ble_false_iff.1 h
      unfold IntKind.wrap
      rw [hk, hb, hB]
      have e : (Int.negSucc m) % (2 * (H : Int)) = 2 * H - 1 - m := by
        have := emod_negSucc m (2 * H) (by omega)
        push_cast at this
        rw [this, Nat.mod_eq_of_lt (by omega)]; omega
      rw [e]
      have : (2 * (H : Int) - 1 - m ≥ H) := by omega
      simp only [Bool.true_and, decide_eq_true_eq]
      rw [if_pos this, Int.negSucc_eq]; omega
theorem wrapA_eq (k : IntKind) (n : Int) : wrapA k n = k.wrap n := by
  cases k
  · exact wrapS_eq 128 .i8 n rfl (by decide) (by decide) (by decide)
  · exact wrapS_eq 32768 .i16 n rfl (by decide) (by decide) (by decide)
  · exact wrapS_eq 2147483648 .i32 n rfl (by decide) (by decide) (by decide)
  · exact wrapS_eq 9223372036854775808 .i64 n rfl (by decide) (by decide) (by decide)
  · exact (wrapU_eq 256 (by decide) n).trans (by simp [IntKind.wrap, IntKind.signed, IntKind.bits])
  · exact (wrapU_eq 65536 (by decide) n).trans (by simp [IntKind.wrap, IntKind.signed, IntKind.bits])
  · exact (wrapU_eq 4294967296 (by decide) n).trans (by simp [IntKind.wrap, IntKind.signed, IntKind.bits])
  · exact (wrapU_eq 18446744073709551616 (by decide) n).trans (by simp [IntKind.wrap, IntKind.signed, IntKind.bits])
theorem modul_pos (k : IntKind) : 0 < modul k := by cases k <;> decide
theorem modul_eq (k : IntKind) : modul k = 2 ^ k.bits := by cases k <;> decide
theorem bitsN_eq (k : IntKind) : bitsN k = k.bits := by cases k <;> rfl
theorem uns_eq (k : IntKind) (n : Int) : uns k n = (BitVec.ofInt k.bits n).toNat := by
  rw [BitVec.toNat_ofInt]
  cases n with
  | ofNat m => simp only [uns, modul_eq]; exact (Int.toNat_natCast _).symm
  | negSucc m =>
    have := emod_negSucc m (modul k) (modul_pos k)
    rw [modul_eq] at this
    simp only [uns, modul_eq]
    rw [this]; rfl
theorem nmin_eq (a b : Nat) : nmin a b = min a b := by
  unfold nmin
  split
  · rename_i h; have := ble_iff.1 h; omega
  · rename_i h; have := ble_false_iff.1 h; omega
theorem strEq_eq : ∀ a b : List Nat, strEq a b = (a == b)
  | [], [] => rfl
  | [], _ :: _ => rfl
  | _ :: _, [] => rfl
  | a :: x, b :: y => by
    unfold strEq
    by_cases h : a = b
    · subst h; rw [Nat.beq_refl]; simp only [strEq_eq x y]; simp
    · rw [beq_of_ne h]; symm; simp [h]
theorem str_beq (s t : ByteArray) : strEq (s.data.toList.map UInt8.toNat) (t.data.toList.map UInt8.toNat) = (s.toList == t.toList) := by
  rw [strEq_eq]
  rw [ByteArray.toList_eq, ByteArray.toList_eq, Bool.eq_iff_iff, beq_iff_eq, beq_iff_eq]
  exact List.map_inj_right fun _ _ h => UInt8.toNat_inj.1 h
end Ax
namespace Ax
open Go
section
variable {σ : Sig} {D : Dom} {v : AV}
theorem VR_int {k : IntKind} {n : Int} {u : Value} : VR σ D (.int k n) u ↔ u = .int k n := by simp only [VR]
theorem VR_bool {b : Bool} {u : Value} : VR σ D (.bool b) u ↔ u = .bool b := by simp only [VR]
theorem kindEq_ok {j k : IntKind} (h : kindEq j k = true) : j = k := by cases j <;> cases k <;> first | rfl | cases h
theorem wrap_natMod (k : IntKind) (n : Nat) (h : n < 2 ^ k.bits) : (n : Int) % 2 ^ k.bits = n := by
  apply Int.emod_eq_of_lt (by omega)
  exact_mod_cast h
def nonEq : BinOp → Bool | .eql => false | .neq => false | _ => true
theorem intOp_ok {op : BinOp} {k : IntKind} {a b : Int} (h : intOp op k a b = some v) :
    ∃ u, VR σ D v u ∧ ∀ (P : Program) (w : World) (t : TypeId), (Go.binOp op t (.int k a) (.int k b)).run P w = .ok u w := by
  unfold intOp at h
  split at h
  · cases h; exact ⟨_, VR_int.2 rfl, fun P w t => by simp [binOp_add, Op.intArith, iadd_eq, wrapA_eq]⟩
  · cases h; exact ⟨_, VR_int.2 rfl, fun P w t => by simp [binOp_sub, Op.intArith, isub_eq, wrapA_eq]⟩
  · cases h; exact ⟨_, VR_int.2 rfl, fun P w t => by simp [binOp_mul, Op.intArith, imul_eq, wrapA_eq]⟩
  · cases h; exact ⟨_, VR_bool.2 rfl, fun P w t => by simp [binOp_eql, ieq_eq]⟩
  · cases h; exact ⟨_, VR_bool.2 rfl, fun P w t => by simp [binOp_neq, ieq_eq, bnot_eq, bne]⟩
  · cases h; exact ⟨_, VR_bool.2 rfl, fun P w t => by simp only [binOp_lss, ile_eq, bnot_eq, Sem.run_pure, Result.ok.injEq, Value.bool.injEq, and_true]; rw [Bool.eq_iff_iff]; simp⟩
  · cases h; exact ⟨_, VR_bool.2 rfl, fun P w t => by simp [binOp_leq, ile_eq]⟩
  · cases h; exact ⟨_, VR_bool.2 rfl, fun P w t => by simp only [binOp_gtr, ile_eq, bnot_eq, Sem.run_pure, Result.ok.injEq, Value.bool.injEq, and_true]; rw [Bool.eq_iff_iff]; simp⟩
  · cases h; exact ⟨_, VR_bool.2 rfl, fun P w t => by simp [binOp_geq, ile_eq]⟩
  · split at h
    · cases h
    · rename_i hz
      rw [ieq_eq] at hz
      have hz' : b ≠ 0 := by simpa using hz
      cases h
      refine ⟨_, VR_int.2 rfl, fun P w t => ?_⟩
      simp only [binOp_quo, Op.intDiv, hz', if_false]
      split
      · rename_i m n; rw [wrapA_eq]; rfl
      · rfl
  · split at h
    · cases h
    · rename_i hz
      rw [ieq_eq] at hz
      have hz' : b ≠ 0 := by simpa using hz
      cases h
      refine ⟨_, VR_int.2 rfl, fun P w t => ?_⟩
      simp only [binOp_rem, Op.intDiv, hz', if_false]
      split <;> rfl
  · cases h; exact ⟨_, VR_int.2 rfl, fun P w t => by simp [binOp, Op.intBits, uns_eq, wrapA_eq]⟩
  · cases h; exact ⟨_, VR_int.2 rfl, fun P w t => by simp [binOp, Op.intBits, uns_eq, wrapA_eq]⟩
  · cases h; exact ⟨_, VR_int.2 rfl, fun P w t => by simp [binOp, Op.intBits, uns_eq, wrapA_eq]⟩
  · cases h
theorem shOp_ok {op : BinOp} {k k' : IntKind} {a : Int} {n : Nat} (h : shOp op k a n = some v) :
    ∃ u, VR σ D v u ∧ ∀ (P : Program) (w : World) (t : TypeId), (Go.binOp op t (.int k a) (.int k' (Int.ofNat n))).run P w = .ok u w := by
  unfold shOp at h
  have hn : ¬ (Int.ofNat n : Int) < 0 := by simp
  split at h
  · cases h
    refine ⟨_, VR_int.2 rfl, fun P w t => ?_⟩
    rw [wrapA_eq, imul_eq, nmin_eq, bitsN_eq]
    simp only [binOp_shl, Op.shift, hn, if_false]
    simp
  · cases h
    refine ⟨_, VR_int.2 rfl, fun P w t => ?_⟩
    simp only [binOp_shr, Op.shift, hn, if_false]
    split
    · rename_i m
      rw [nmin_eq, bitsN_eq]
      simp only [Sem.run_pure, Result.ok.injEq, Value.int.injEq, true_and, and_true]
      rw [Int.fdiv_eq_ediv_of_nonneg _ (by exact_mod_cast Nat.zero_le _)]
      simp
      show (m : Int) / 2 ^ min n k.bits = ((m / 2 ^ min n k.bits : Nat) : Int)
      push_cast; rfl
    · rw [nmin_eq, bitsN_eq]
      simp
  · cases h
theorem str_len (s : ByteArray) : (s.data.toList.map UInt8.toNat).length = s.size := by simp
theorem strOp_ok {op : BinOp} {a b : List Nat} {x y : Value} (h : strOp op a b = some v) (hx : VR σ D (.str a) x) (hy : VR σ D (.str b) y) :
    ∃ u, VR σ D v u ∧ ∀ (P : Program) (w : World) (t : TypeId), (Go.binOp op t x y).run P w = .ok u w := by
  simp only [VR] at hx hy
  obtain ⟨s, rfl, rfl⟩ := hx
  obtain ⟨r, rfl, rfl⟩ := hy
  unfold strOp at h
  split at h
  · split at h
    · rename_i hb
      cases h
      refine ⟨.string (s ++ r), ?_, fun P w t => ?_⟩
      · simp only [VR]
        refine ⟨_, rfl, ?_⟩
        show List.map UInt8.toNat (s ++ r).data.toList = List.map UInt8.toNat s.data.toList ++ List.map UInt8.toNat r.data.toList
        rw [ByteArray.data_append, Array.toList_append, List.map_append]
      · have hl : s.size + r.size ≤ big := by
          have := ble_iff.1 hb
          simp only [llen_eq, str_len, Nat.add_eq] at this
          exact this
        have h2 : ¬ (((s.size + r.size : Nat) : Int) > IntKind.i64.max) := by
          rw [IntKind.max_i64]; unfold big at hl; omega
        simp only [Go.binOp, Op.stringOp, if_neg h2]; rfl
    · cases h
  · cases h
    exact ⟨_, VR_bool.2 rfl, fun P w t => by simp only [Go.binOp, Op.stringOp, str_beq]; rfl⟩
  · cases h
    exact ⟨_, VR_bool.2 rfl, fun P w t => by simp only [Go.binOp, Op.stringOp, str_beq, bnot_eq]; rfl⟩
  · cases h
theorem eqGuard_int (op : BinOp) (t : TypeId) (X Y : Operand) (k : IntKind) (n : Int) (z : Value) : eqGuard op t X Y (.int k n) z = pure () := by cases op <;> rfl
theorem eqGuard_string (op : BinOp) (t : TypeId) (X Y : Operand) (s : ByteArray) (z : Value) : eqGuard op t X Y (.string s) z = pure () := by cases op <;> rfl
theorem binop_ok {op : BinOp} {a b : AV} {x y : Value} (h : binop op a b = some v) (hx : VR σ D a x) (hy : VR σ D b y) :
    ∃ u, VR σ D v u ∧ ∀ (P : Program) (w : World) (t : TypeId) (X Y : Operand), (do eqGuard op t X Y x y; Go.binOp op t x y : Sem Value).run P w = .ok u w := by
  unfold binop at h
  split at h
  · rename_i k m
    split at h
    · rename_i k' n
      have ex := VR_int.1 hx
      have ey := VR_int.1 hy
      subst ex ey
      split at h
      · rename_i hs
        split at h
        · rename_i q
          obtain ⟨u, hu, hr⟩ := shOp_ok (σ := σ) (D := D) (k' := k') h
          exact ⟨u, hu, fun P w t X Y => by rw [eqGuard_int]; simpa using hr P w t⟩
        · cases h
      · split at h
        · rename_i hk
          have := kindEq_ok hk
          subst this
          obtain ⟨u, hu, hr⟩ := intOp_ok (σ := σ) (D := D) h
          exact ⟨u, hu, fun P w t X Y => by rw [eqGuard_int]; simpa using hr P w t⟩
        · cases h
    · cases h
  · rename_i l
    split at h
    · rename_i m
      have hx' := hx
      simp only [VR] at hx'
      obtain ⟨s, rfl, _⟩ := hx'
      obtain ⟨u, hu, hr⟩ := strOp_ok h hx hy
      exact ⟨u, hu, fun P w t X Y => by rw [eqGuard_string]; simpa using hr P w t⟩
    · cases h
  · cases h
theorem un_ok {op : UnOp} {a : AV} {x : Value} (h : doUn op a = some v) (hx : VR σ D a x) :
    ∃ u, VR σ D v u ∧ ∀ (P : Program) (w : World), (Op.unary op x).run P w = .ok u w := by
  unfold doUn at h
  split at h
  · split at h
    · cases h
      have := VR_bool.1 hx; subst this
      exact ⟨_, VR_bool.2 rfl, fun P w => by simp [Op.unary, bnot_eq]⟩
    · cases h
  · split at h
    · rename_i k n
      cases h
      have := VR_int.1 hx; subst this
      exact ⟨_, VR_int.2 rfl, fun P w => by simp [Op.unary, Op.intArith, isub_eq, wrapA_eq]⟩
    · cases h
  · split at h
    · rename_i k n
      cases h
      have := VR_int.1 hx; subst this
      refine ⟨_, VR_int.2 rfl, fun P w => ?_⟩
      have e : (BitVec.ofInt k.bits (if k.signed then -1 else k.max)).toNat = Nat.sub (modul k) 1 := by cases k <;> decide
      simp only [Op.unary, Op.intBits, wrapA_eq]
      simp only [Sem.run_pure, Result.ok.injEq, Value.int.injEq, true_and, and_true]
      rw [uns_eq, ← e]
      rfl
    · cases h
  · cases h
theorem convInt_ok {k : IntKind} {a : AV} {x : Value} (h : doConvInt k a = some v) (hx : VR σ D a x) : ∃ j n, x = .int j n ∧ VR σ D v (.int k (k.wrap n)) := by
  unfold doConvInt at h
  split at h
  · cases h
    have := VR_int.1 hx; subst this
    exact ⟨_, _, rfl, VR_int.2 (by rw [wrapA_eq])⟩
  · cases h
end
end Ax
namespace Ax
open Go
def skOf : TypeDesc → Option SK | .bool => some .b | .int _ => some .n | .string => some .s | _ => none
def fieldKinds (P : Program) : List Field → Nat → Option (List SK)
  | [], _ => some []
  | f :: fs, i => match decide (f.name ≠ "_"), Nat.beq f.offset i, P.underlying f.type with
    | true, true, some d => (match skOf d, fieldKinds P fs (i + 1) with | some k, some ks => some (k :: ks) | _, _ => none)
    | _, _, _ => none
def ekOf (P : Program) (t : TypeId) : Option EK :=
  match P.underlying t with
  | some d => (match d with
    | .pointer e => (match P.info? e with | some i => (match Nat.beq i.size 0 with | true => none | false => some .ptr) | none => none)
    | .slice _ => some .slc
    | .map _ _ => some .map
    | .func _ _ _ => some .fn
    | .interface _ => some .ifc
    | .struct fs => (match fieldKinds P fs.toList 0, P.eqGuardType P.depth t, P.stoodInHeld t with | some ks, false, false => some (.agg ks) | _, _, _ => none)
    | d => (match skOf d with | some k => some (.sc k) | none => none))
  | none => none
section
variable {σ : Sig} {D : Dom} {P : Program} {w : World}
theorem seq_ok {k : SK} {a b : AV} {x y : Value} {r : Bool} {d : TypeDesc} {t : TypeId} (n : Nat) (h : seq k a b = some r) (hx : VR σ D a x) (hy : VR σ D b y)
    (hd : P.underlying t = some d) (hk : skOf d = some k) : (Op.equalIn (n + 1) t x y).run P w = .ok r w := by
  cases k with
  | b =>
    simp only [seq] at h
    split at h
    · split at h
      · cases h
        have := VR_bool.1 hx; subst this
        have := VR_bool.1 hy; subst this
        cases d <;> simp [skOf] at hk
        rw [run_equalIn_bool' _ _ _ _ _ hd]
        congr 1
        split <;> simp [bnot_eq]
      · cases h
    · cases h
  | n =>
    simp only [seq] at h
    split at h
    · split at h
      · split at h
        · rename_i hkk
          cases h
          have := kindEq_ok hkk; subst this
          have := VR_int.1 hx; subst this
          have := VR_int.1 hy; subst this
          cases d <;> simp [skOf] at hk
          rw [run_equalIn_int _ _ _ _ _ _ _ hd, ieq_eq]
        · cases h
      · cases h
    · cases h
  | s =>
    simp only [seq] at h
    split at h
    · split at h
      · cases h
        simp only [VR] at hx hy
        obtain ⟨s, rfl, rfl⟩ := hx
        obtain ⟨s', rfl, rfl⟩ := hy
        cases d <;> simp [skOf] at hk
        rw [run_equalIn_string _ _ _ _ _ hd, str_beq]
      · cases h
    · cases h
theorem skOf_notAgg {d : TypeDesc} {k : SK} (h : skOf d = some k) : aggD d = false := by cases d <;> simp [skOf] at h <;> rfl
theorem eqFields_ok (n : Nat) (xs ys : Array Value) : ∀ (fs : List Field) (i : Nat) (ks : List SK) (a b : List AV) (r : Bool), fieldKinds P fs i = some ks → seqs ks a b = some r →
    VRs σ D a (xs.toList.drop i) → VRs σ D b (ys.toList.drop i) → (Op.eqFields (n + 1) xs ys fs).run P w = .ok r w
  | [], i, ks, a, b, r, hk, h, _, _ => by
    simp only [fieldKinds, Option.some.injEq] at hk
    subst hk
    cases a <;> cases b <;> simp only [seqs] at h <;> first | (cases h; simp [Op.eqFields]; done) | cases h
  | f :: fs, i, ks, a, b, r, hk, h, ha, hb => by
    simp only [fieldKinds] at hk
    split at hk
    · rename_i d hname hoff hd
      split at hk
      · rename_i k ks' hsk hks
        cases hk
        have hn : f.name ≠ "_" := by simpa using hname
        have ho : f.offset = i := beq_iff.1 hoff
        cases a with
        | nil => simp only [seqs] at h; cases h
        | cons p a =>
        cases b with
        | nil => simp only [seqs] at h; cases h
        | cons q b =>
        obtain ⟨u, us, he, h1, h2⟩ := VRs_cons.1 ha
        obtain ⟨u', us', he', h1', h2'⟩ := VRs_cons.1 hb
        have g1 : xs[i]? = some u := by
          have : xs.toList[i]? = some u := by
            have e := List.getElem?_drop (xs := xs.toList) (i := i) (j := 0)
            rw [he, Nat.add_zero] at e; exact e.symm
          simpa using this
        have g2 : ys[i]? = some u' := by
          have : ys.toList[i]? = some u' := by
            have e := List.getElem?_drop (xs := ys.toList) (i := i) (j := 0)
            rw [he', Nat.add_zero] at e; exact e.symm
          simpa using this
        have e1 : xs.toList.drop (i + 1) = us := by rw [← List.drop_drop, he]; rfl
        have e2 : ys.toList.drop (i + 1) = us' := by rw [← List.drop_drop, he']; rfl
        simp only [Op.eqFields, if_pos hn, Sem.run_bind, ho, run_part hd (skOf_notAgg hsk) g1, run_part hd (skOf_notAgg hsk) g2, Result.andThen_ok]
        simp only [seqs] at h
        cases hs : seq k p q with
        | none => rw [hs] at h; cases h
        | some z =>
          rw [hs] at h
          rw [seq_ok n hs h1 h1' hd hsk]
          cases z with
          | false => cases h; simp
          | true =>
            simp only [Result.andThen_ok, Bool.not_true, Bool.false_eq_true, if_false]
            exact eqFields_ok n xs ys fs (i + 1) ks' a b r hks h (by rw [e1]; exact h2) (by rw [e2]; exact h2')
      · cases hk
    · cases hk
section eqs
variable {P : Program} {w : World} {t e kt et : TypeId} (n : Nat)
theorem en_ptr_nn (h : P.underlying t = some (.pointer e)) : (Op.equalIn (n + 1) t (.pointer none) (.pointer none)).run P w = .ok true w := by
  unfold Op.equalIn; simp only [Sem.run_bind, run_und h, Result.andThen_ok]; rfl
theorem en_ptr_ns (h : P.underlying t = some (.pointer e)) (a : Addr) : (Op.equalIn (n + 1) t (.pointer none) (.pointer (some a))).run P w = .ok false w := by
  unfold Op.equalIn; simp only [Sem.run_bind, run_und h, Result.andThen_ok]; rfl
theorem en_ptr_sn (h : P.underlying t = some (.pointer e)) (a : Addr) : (Op.equalIn (n + 1) t (.pointer (some a)) (.pointer none)).run P w = .ok false w := by
  unfold Op.equalIn; simp only [Sem.run_bind, run_und h, Result.andThen_ok]; rfl
theorem en_ptr_ss (h : P.underlying t = some (.pointer e)) {i : TypeInfo} (hi : P.info? e = some i) (hs : i.size ≠ 0) (B o p : Nat) :
    (Op.equalIn (n + 1) t (.pointer (some ⟨B, o, none⟩)) (.pointer (some ⟨B, p, none⟩))).run P w = .ok (Nat.beq o p) w := by
  unfold Op.equalIn; simp only [Sem.run_bind, run_und h, Result.andThen_ok, run_size hi, ne_eq, hs, not_false_eq_true, if_true, sameAddr]
  by_cases ho : o = p
  · subst ho; simp
  · rw [beq_of_ne ho]; simp
theorem en_sl_nn (h : P.underlying t = some (.slice e)) (a b c d : Nat) : (Op.equalIn (n + 1) t (.slice none a b) (.slice none c d)).run P w = .ok true w := by
  unfold Op.equalIn; simp only [Sem.run_bind, run_und h, Result.andThen_ok]; rfl
theorem en_sl_ns (h : P.underlying t = some (.slice e)) (x : Addr) (a b c d : Nat) : (Op.equalIn (n + 1) t (.slice none a b) (.slice (some x) c d)).run P w = .ok false w := by
  unfold Op.equalIn; simp only [Sem.run_bind, run_und h, Result.andThen_ok]; rfl
theorem en_sl_sn (h : P.underlying t = some (.slice e)) (x : Addr) (a b c d : Nat) : (Op.equalIn (n + 1) t (.slice (some x) a b) (.slice none c d)).run P w = .ok false w := by
  unfold Op.equalIn; simp only [Sem.run_bind, run_und h, Result.andThen_ok]; rfl
theorem en_mp_nn (h : P.underlying t = some (.map kt et)) : (Op.equalIn (n + 1) t (.map none) (.map none)).run P w = .ok true w := by
  unfold Op.equalIn; simp only [Sem.run_bind, run_und h, Result.andThen_ok]; rfl
theorem en_mp_ns (h : P.underlying t = some (.map kt et)) (a : Nat) : (Op.equalIn (n + 1) t (.map none) (.map (some a))).run P w = .ok false w := by
  unfold Op.equalIn; simp only [Sem.run_bind, run_und h, Result.andThen_ok]; rfl
theorem en_mp_sn (h : P.underlying t = some (.map kt et)) (a : Nat) : (Op.equalIn (n + 1) t (.map (some a)) (.map none)).run P w = .ok false w := by
  unfold Op.equalIn; simp only [Sem.run_bind, run_und h, Result.andThen_ok]; rfl
theorem en_fn_nn {x y : Array TypeId} {z : Bool} (h : P.underlying t = some (.func x y z)) : (Op.equalIn (n + 1) t .nilFunc .nilFunc).run P w = .ok true w := by
  unfold Op.equalIn; simp only [Sem.run_bind, run_und h, Result.andThen_ok]; rfl
theorem en_fn_ns {x y : Array TypeId} {z : Bool} (h : P.underlying t = some (.func x y z)) (f : Fn) (a b : Array Value) : (Op.equalIn (n + 1) t .nilFunc (.func f a b)).run P w = .ok false w := by
  unfold Op.equalIn; simp only [Sem.run_bind, run_und h, Result.andThen_ok]; rfl
theorem en_fn_sn {x y : Array TypeId} {z : Bool} (h : P.underlying t = some (.func x y z)) (f : Fn) (a b : Array Value) : (Op.equalIn (n + 1) t (.func f a b) .nilFunc).run P w = .ok false w := by
  unfold Op.equalIn; simp only [Sem.run_bind, run_und h, Result.andThen_ok]; rfl
theorem en_if_nn {m : Array (String × TypeId)} (h : P.underlying t = some (.interface m)) : (Op.equalIn (n + 1) t .nilIface .nilIface).run P w = .ok true w := by
  unfold Op.equalIn; simp only [Sem.run_bind, run_und h, Result.andThen_ok]; rfl
theorem en_if_ns {m : Array (String × TypeId)} (h : P.underlying t = some (.interface m)) (d : TypeId) (z : Value) : (Op.equalIn (n + 1) t .nilIface (.iface d z)).run P w = .ok false w := by
  unfold Op.equalIn; simp only [Sem.run_bind, run_und h, Result.andThen_ok]; rfl
theorem en_if_sn {m : Array (String × TypeId)} (h : P.underlying t = some (.interface m)) (d : TypeId) (z : Value) : (Op.equalIn (n + 1) t (.iface d z) .nilIface).run P w = .ok false w := by
  unfold Op.equalIn; simp only [Sem.run_bind, run_und h, Result.andThen_ok]; rfl
end eqs
theorem beqAdd (c a b : Nat) : Nat.beq (c + a) (c + b) = Nat.beq a b := by
  by_cases h : a = b
  · subst h; rw [beq_refl', beq_refl']
  · rw [beq_of_ne h, beq_of_ne (by omega)]
set_option maxHeartbeats 1000000 in
theorem eq_ok {t : TypeId} {ek : EK} {c : Bool} {a b : AV} {x y : Value} {r : Bool} {X Y : Operand} {neg : Bool} (hk : ekOf P t = some ek) (h : veq c ek a b = some r) (hx : VR σ D a x) (hy : VR σ D b y)
    (hc : c = true → (∃ v, X = .const v) ∨ ∃ v, Y = .const v) :
    (do eqGuard (if neg then .neq else .eql) t X Y x y; Go.binOp (if neg then .neq else .eql) t x y : Sem Value).run P w = .ok (.bool (if neg then !r else r)) w := by
  have key : ∀ (_ : ∀ op, (eqGuard op t X Y x y).run P w = .ok () w) (_ : ∀ op, Go.binOp op t x y = (match op with | .eql => (do pure (.bool (← Op.equal t x y)) : Sem Value) | .neq => (do pure (.bool (!(← Op.equal t x y))) : Sem Value) | _ => Go.binOp op t x y))
      (_ : ∀ n, (Op.equalIn (n + 1 + 1) t x y).run P w = .ok r w), (do eqGuard (if neg then .neq else .eql) t X Y x y; Go.binOp (if neg then .neq else .eql) t x y : Sem Value).run P w = .ok (.bool (if neg then !r else r)) w := by
    intro h1 h2 h3
    have h4 : (Op.equal t x y).run P w = .ok r w := h3 9998
    rw [h2]
    cases neg <;> simp [h1, h4]
  unfold ekOf at hk
  split at hk
  case h_2 => cases hk
  rename_i d hd
  split at hk
  · -- pointers
    rename_i e
    split at hk
    · rename_i i hi
      split at hk
      · cases hk
      · rename_i hs
        cases hk
        have hs' := beq_false_iff.1 hs
        simp only [veq] at h
        split at h
        · split at h
          · cases h
            simp only [VR] at hx hy; subst hx hy
            exact key (fun op => by rw [eqGuard_at_pointer]; rfl) (fun op => by cases op <;> rfl) (fun n => by first | exact en_ptr_nn _ hd | exact en_ptr_ns _ hd _ | exact en_ptr_sn _ hd _ | exact en_sl_nn _ hd _ _ _ _ | exact en_sl_ns _ hd _ _ _ _ _ | exact en_sl_sn _ hd _ _ _ _ _ | exact en_mp_nn _ hd | exact en_mp_ns _ hd _ | exact en_mp_sn _ hd _ | exact en_fn_nn _ hd | exact en_fn_ns _ hd _ _ _ | exact en_fn_sn _ hd _ _ _ | exact en_if_nn _ hd | exact en_if_ns _ hd _ _ | exact en_if_sn _ hd _ _)
          · cases h
            simp only [VR] at hx hy; subst hx; obtain ⟨_, rfl⟩ := hy
            exact key (fun op => by rw [eqGuard_at_pointer]; rfl) (fun op => by cases op <;> rfl) (fun n => by first | exact en_ptr_nn _ hd | exact en_ptr_ns _ hd _ | exact en_ptr_sn _ hd _ | exact en_sl_nn _ hd _ _ _ _ | exact en_sl_ns _ hd _ _ _ _ _ | exact en_sl_sn _ hd _ _ _ _ _ | exact en_mp_nn _ hd | exact en_mp_ns _ hd _ | exact en_mp_sn _ hd _ | exact en_fn_nn _ hd | exact en_fn_ns _ hd _ _ _ | exact en_fn_sn _ hd _ _ _ | exact en_if_nn _ hd | exact en_if_ns _ hd _ _ | exact en_if_sn _ hd _ _)
          · cases h
        · split at h
          · cases h
            simp only [VR] at hx hy; subst hy; obtain ⟨_, rfl⟩ := hx
            exact key (fun op => by rw [eqGuard_at_pointer]; rfl) (fun op => by cases op <;> rfl) (fun n => by first | exact en_ptr_nn _ hd | exact en_ptr_ns _ hd _ | exact en_ptr_sn _ hd _ | exact en_sl_nn _ hd _ _ _ _ | exact en_sl_ns _ hd _ _ _ _ _ | exact en_sl_sn _ hd _ _ _ _ _ | exact en_mp_nn _ hd | exact en_mp_ns _ hd _ | exact en_mp_sn _ hd _ | exact en_fn_nn _ hd | exact en_fn_ns _ hd _ _ _ | exact en_fn_sn _ hd _ _ _ | exact en_if_nn _ hd | exact en_if_ns _ hd _ _ | exact en_if_sn _ hd _ _)
          · split at h
            · rename_i p q hb
              cases h
              have := beq_iff.1 hb; subst this
              simp only [VR] at hx hy; obtain ⟨_, rfl⟩ := hx; obtain ⟨_, rfl⟩ := hy
              refine key (fun op => by rw [eqGuard_at_pointer]; rfl) (fun op => by cases op <;> rfl) (fun n => ?_)
              exact en_ptr_ss _ hd hi hs' _ _ _ |>.trans (by rw [beqAdd])
            · cases h
          · cases h
        · cases h
    · cases hk
  · cases hk
    simp only [veq] at h
    split at h
    · split at h
      · cases h
        simp only [VR] at hx hy; subst hx hy
        exact key (fun op => by rw [eqGuard_at_slice]; rfl) (fun op => by cases op <;> rfl) (fun n => by first | exact en_ptr_nn _ hd | exact en_ptr_ns _ hd _ | exact en_ptr_sn _ hd _ | exact en_sl_nn _ hd _ _ _ _ | exact en_sl_ns _ hd _ _ _ _ _ | exact en_sl_sn _ hd _ _ _ _ _ | exact en_mp_nn _ hd | exact en_mp_ns _ hd _ | exact en_mp_sn _ hd _ | exact en_fn_nn _ hd | exact en_fn_ns _ hd _ _ _ | exact en_fn_sn _ hd _ _ _ | exact en_if_nn _ hd | exact en_if_ns _ hd _ _ | exact en_if_sn _ hd _ _)
      · rename_i b' o' l' c'
        cases h
        simp only [VR] at hx; subst hx
        have : ∃ ad n m, y = .slice (some ad) n m := by cases c' <;> simp only [VR] at hy <;> first | (obtain ⟨_, rfl⟩ := hy; exact ⟨_, _, _, rfl⟩) | (obtain ⟨_, _, _, _, rfl⟩ := hy; exact ⟨_, _, _, rfl⟩)
        obtain ⟨ad, n, m, rfl⟩ := this
        exact key (fun op => by rw [eqGuard_at_slice]; rfl) (fun op => by cases op <;> rfl) (fun n => by first | exact en_ptr_nn _ hd | exact en_ptr_ns _ hd _ | exact en_ptr_sn _ hd _ | exact en_sl_nn _ hd _ _ _ _ | exact en_sl_ns _ hd _ _ _ _ _ | exact en_sl_sn _ hd _ _ _ _ _ | exact en_mp_nn _ hd | exact en_mp_ns _ hd _ | exact en_mp_sn _ hd _ | exact en_fn_nn _ hd | exact en_fn_ns _ hd _ _ _ | exact en_fn_sn _ hd _ _ _ | exact en_if_nn _ hd | exact en_if_ns _ hd _ _ | exact en_if_sn _ hd _ _)
      · cases h
    · rename_i b' o' l' c'
      split at h
      · cases h
        simp only [VR] at hy; subst hy
        have : ∃ ad n m, x = .slice (some ad) n m := by cases c' <;> simp only [VR] at hx <;> first | (obtain ⟨_, rfl⟩ := hx; exact ⟨_, _, _, rfl⟩) | (obtain ⟨_, _, _, _, rfl⟩ := hx; exact ⟨_, _, _, rfl⟩)
        obtain ⟨ad, n, m, rfl⟩ := this
        exact key (fun op => by rw [eqGuard_at_slice]; rfl) (fun op => by cases op <;> rfl) (fun n => by first | exact en_ptr_nn _ hd | exact en_ptr_ns _ hd _ | exact en_ptr_sn _ hd _ | exact en_sl_nn _ hd _ _ _ _ | exact en_sl_ns _ hd _ _ _ _ _ | exact en_sl_sn _ hd _ _ _ _ _ | exact en_mp_nn _ hd | exact en_mp_ns _ hd _ | exact en_mp_sn _ hd _ | exact en_fn_nn _ hd | exact en_fn_ns _ hd _ _ _ | exact en_fn_sn _ hd _ _ _ | exact en_if_nn _ hd | exact en_if_ns _ hd _ _ | exact en_if_sn _ hd _ _)
      · cases h
    · cases h
  · cases hk
    simp only [veq] at h
    split at h
    · split at h
      · cases h
        simp only [VR] at hx hy; subst hx hy
        exact key (fun op => by rw [eqGuard_at_map]; rfl) (fun op => by cases op <;> rfl) (fun n => by first | exact en_ptr_nn _ hd | exact en_ptr_ns _ hd _ | exact en_ptr_sn _ hd _ | exact en_sl_nn _ hd _ _ _ _ | exact en_sl_ns _ hd _ _ _ _ _ | exact en_sl_sn _ hd _ _ _ _ _ | exact en_mp_nn _ hd | exact en_mp_ns _ hd _ | exact en_mp_sn _ hd _ | exact en_fn_nn _ hd | exact en_fn_ns _ hd _ _ _ | exact en_fn_sn _ hd _ _ _ | exact en_if_nn _ hd | exact en_if_ns _ hd _ _ | exact en_if_sn _ hd _ _)
      · cases h
        simp only [VR] at hx hy; subst hx; obtain ⟨_, rfl⟩ := hy
        exact key (fun op => by rw [eqGuard_at_map]; rfl) (fun op => by cases op <;> rfl) (fun n => by first | exact en_ptr_nn _ hd | exact en_ptr_ns _ hd _ | exact en_ptr_sn _ hd _ | exact en_sl_nn _ hd _ _ _ _ | exact en_sl_ns _ hd _ _ _ _ _ | exact en_sl_sn _ hd _ _ _ _ _ | exact en_mp_nn _ hd | exact en_mp_ns _ hd _ | exact en_mp_sn _ hd _ | exact en_fn_nn _ hd | exact en_fn_ns _ hd _ _ _ | exact en_fn_sn _ hd _ _ _ | exact en_if_nn _ hd | exact en_if_ns _ hd _ _ | exact en_if_sn _ hd _ _)
      · cases h
    · split at h
      · cases h
        simp only [VR] at hx hy; subst hy; obtain ⟨_, rfl⟩ := hx
        exact key (fun op => by rw [eqGuard_at_map]; rfl) (fun op => by cases op <;> rfl) (fun n => by first | exact en_ptr_nn _ hd | exact en_ptr_ns _ hd _ | exact en_ptr_sn _ hd _ | exact en_sl_nn _ hd _ _ _ _ | exact en_sl_ns _ hd _ _ _ _ _ | exact en_sl_sn _ hd _ _ _ _ _ | exact en_mp_nn _ hd | exact en_mp_ns _ hd _ | exact en_mp_sn _ hd _ | exact en_fn_nn _ hd | exact en_fn_ns _ hd _ _ _ | exact en_fn_sn _ hd _ _ _ | exact en_if_nn _ hd | exact en_if_ns _ hd _ _ | exact en_if_sn _ hd _ _)
      · cases h
    · cases h
  · cases hk
    simp only [veq] at h
    split at h
    · split at h
      · cases h
        simp only [VR] at hx hy; subst hx hy
        exact key (fun op => by rw [eqGuard_at_nilFunc]; rfl) (fun op => by cases op <;> rfl) (fun n => by first | exact en_ptr_nn _ hd | exact en_ptr_ns _ hd _ | exact en_ptr_sn _ hd _ | exact en_sl_nn _ hd _ _ _ _ | exact en_sl_ns _ hd _ _ _ _ _ | exact en_sl_sn _ hd _ _ _ _ _ | exact en_mp_nn _ hd | exact en_mp_ns _ hd _ | exact en_mp_sn _ hd _ | exact en_fn_nn _ hd | exact en_fn_ns _ hd _ _ _ | exact en_fn_sn _ hd _ _ _ | exact en_if_nn _ hd | exact en_if_ns _ hd _ _ | exact en_if_sn _ hd _ _)
      · cases h
        simp only [VR] at hx hy; subst hx; obtain ⟨_, rfl, _⟩ := hy
        exact key (fun op => by rw [eqGuard_at_nilFunc]; rfl) (fun op => by cases op <;> rfl) (fun n => by first | exact en_ptr_nn _ hd | exact en_ptr_ns _ hd _ | exact en_ptr_sn _ hd _ | exact en_sl_nn _ hd _ _ _ _ | exact en_sl_ns _ hd _ _ _ _ _ | exact en_sl_sn _ hd _ _ _ _ _ | exact en_mp_nn _ hd | exact en_mp_ns _ hd _ | exact en_mp_sn _ hd _ | exact en_fn_nn _ hd | exact en_fn_ns _ hd _ _ _ | exact en_fn_sn _ hd _ _ _ | exact en_if_nn _ hd | exact en_if_ns _ hd _ _ | exact en_if_sn _ hd _ _)
      · cases h
    · split at h
      · cases h
        simp only [VR] at hx hy; subst hy; obtain ⟨_, rfl, _⟩ := hx
        exact key (fun op => by rw [eqGuard_at_func]; rfl) (fun op => by cases op <;> rfl) (fun n => by first | exact en_ptr_nn _ hd | exact en_ptr_ns _ hd _ | exact en_ptr_sn _ hd _ | exact en_sl_nn _ hd _ _ _ _ | exact en_sl_ns _ hd _ _ _ _ _ | exact en_sl_sn _ hd _ _ _ _ _ | exact en_mp_nn _ hd | exact en_mp_ns _ hd _ | exact en_mp_sn _ hd _ | exact en_fn_nn _ hd | exact en_fn_ns _ hd _ _ _ | exact en_fn_sn _ hd _ _ _ | exact en_if_nn _ hd | exact en_if_ns _ hd _ _ | exact en_if_sn _ hd _ _)
      · cases h
    · cases h
  · cases hk
    simp only [veq] at h
    split at h
    · split at h
      · split at h
        · cases h
          simp only [VR] at hx hy; subst hx hy
          refine key (fun op => ?_) (fun op => by cases op <;> rfl) (fun n => by first | exact en_ptr_nn _ hd | exact en_ptr_ns _ hd _ | exact en_ptr_sn _ hd _ | exact en_sl_nn _ hd _ _ _ _ | exact en_sl_ns _ hd _ _ _ _ _ | exact en_sl_sn _ hd _ _ _ _ _ | exact en_mp_nn _ hd | exact en_mp_ns _ hd _ | exact en_mp_sn _ hd _ | exact en_fn_nn _ hd | exact en_fn_ns _ hd _ _ _ | exact en_fn_sn _ hd _ _ _ | exact en_if_nn _ hd | exact en_if_ns _ hd _ _ | exact en_if_sn _ hd _ _)
          rcases hc rfl with ⟨v, rfl⟩ | ⟨v, rfl⟩
          · rw [eqGuard_nil_constL]; rfl
          · rw [eqGuard_nil_constR]; rfl
        · cases h
      · cases h
        simp only [VR] at hx hy; subst hx; obtain ⟨_, rfl, _⟩ := hy
        exact key (fun op => by rw [eqGuard_nil_iface]; rfl) (fun op => by cases op <;> rfl) (fun n => by first | exact en_ptr_nn _ hd | exact en_ptr_ns _ hd _ | exact en_ptr_sn _ hd _ | exact en_sl_nn _ hd _ _ _ _ | exact en_sl_ns _ hd _ _ _ _ _ | exact en_sl_sn _ hd _ _ _ _ _ | exact en_mp_nn _ hd | exact en_mp_ns _ hd _ | exact en_mp_sn _ hd _ | exact en_fn_nn _ hd | exact en_fn_ns _ hd _ _ _ | exact en_fn_sn _ hd _ _ _ | exact en_if_nn _ hd | exact en_if_ns _ hd _ _ | exact en_if_sn _ hd _ _)
      · cases h
    · split at h
      · cases h
        simp only [VR] at hx hy; subst hy; obtain ⟨_, rfl, _⟩ := hx
        exact key (fun op => by rw [eqGuard_at_iface]; rfl) (fun op => by cases op <;> rfl) (fun n => by first | exact en_ptr_nn _ hd | exact en_ptr_ns _ hd _ | exact en_ptr_sn _ hd _ | exact en_sl_nn _ hd _ _ _ _ | exact en_sl_ns _ hd _ _ _ _ _ | exact en_sl_sn _ hd _ _ _ _ _ | exact en_mp_nn _ hd | exact en_mp_ns _ hd _ | exact en_mp_sn _ hd _ | exact en_fn_nn _ hd | exact en_fn_ns _ hd _ _ _ | exact en_fn_sn _ hd _ _ _ | exact en_if_nn _ hd | exact en_if_ns _ hd _ _ | exact en_if_sn _ hd _ _)
      · cases h
    · cases h
  · rename_i fs
    split at hk
    · rename_i ks hfk hg hst
      cases hk
      simp only [veq] at h
      split at h
      · split at h
        · simp only [VR] at hx hy
          obtain ⟨xs, rfl, hxs⟩ := hx
          obtain ⟨ys, rfl, hys⟩ := hy
          refine key (fun op => run_eqGuard_agg _ op t X Y xs ys hg) (fun op => by cases op <;> rfl) (fun n => ?_)
          have hf : P.fieldsOf t = fs := by simp [Program.fieldsOf, hd]
          rw [run_equalIn_struct w (n + 1) t xs ys (by rw [hf]; exact hd) hst, hf]
          exact eqFields_ok n xs ys fs.toList 0 ks _ _ r hfk h (by simpa using hxs) (by simpa using hys)
        · cases h
      · cases h
    · cases hk
  · split at hk
    · rename_i k hsk
      cases hk
      simp only [veq] at h
      have h3 := fun n => seq_ok (w := w) (n + 1) h hx hy hd hsk
      cases k with
      | b =>
        simp only [seq] at h
        split at h
        · have := VR_bool.1 hx; subst this
          split at h
          · have := VR_bool.1 hy; subst this
            exact key (fun op => by rw [eqGuard_at_bool]; rfl) (fun op => by cases op <;> rfl) h3
          · cases h
        · cases h
      | n =>
        simp only [seq] at h
        split at h
        · rename_i k1 n1
          have := VR_int.1 hx; subst this
          split at h
          · rename_i k2 n2
            have := VR_int.1 hy; subst this
            split at h
            · rename_i hkk
              cases h
              have := kindEq_ok hkk; subst this
              rw [eqGuard_int]
              cases neg <;> simp [binOp_eql, binOp_neq, ieq_eq, bne]
            · cases h
          · cases h
        · cases h
      | s =>
        simp only [seq] at h
        split at h
        · split at h
          · cases h
            simp only [VR] at hx hy
            obtain ⟨s1, rfl, rfl⟩ := hx
            obtain ⟨s2, rfl, rfl⟩ := hy
            rw [eqGuard_string, str_beq]
            cases neg <;> simp [Go.binOp, Op.stringOp]
          · cases h
        · cases h
    · cases hk
end
end Ax
namespace Ax
open Go
section
variable {G : Nat} {hole : Nat → Prop} {σ : Sig} {s s' : St} {w : World} {v : AV} {P : Program} {D : Dom}
theorem hcells_rep (hr : Rep G hole σ s w) {b : Nat} {l : List AV} (h : hcells s b = some l) :
    ∃ (c : Array Value) (ty : TypeId) (f : Nat × Nat) (us rest : List Value), w.heap[(σ b).1]? = some (.cells c ty f) ∧ c.size = (σ b).2.2 ∧ (σ b).2.1 ≤ c.size ∧ c.toList.drop (σ b).2.1 = us ++ rest ∧ VRs σ ⟨s.next, hole⟩ l us := by
  unfold hcells at h
  split at h
  · rename_i ty l' hb
    cases h
    obtain ⟨c, f, h1, h2, h3, us, rest, h4, h5, h6⟩ := (hr.objs b _ hb).2
    exact ⟨c, ty, f, us, rest, h1, h2, h5, h4, h6⟩
  · rename_i ty l' hb
    cases h
    obtain ⟨c, ty0, f, h1, h2, h3, us, rest, h4, h6⟩ := (hr.objs b _ hb).2
    exact ⟨c, ty0, f, us, rest, h1, h2, h3, h4, h6⟩
  · cases h
theorem cell_of {c : Array Value} {ty : TypeId} {f : Nat × Nat} {B base : Nat} {us rest : List Value} (h : w.heap[B]? = some (.cells c ty f)) (hd : c.toList.drop base = us ++ rest) {i : Nat} {x : Value} (hx : us[i]? = some x) :
    w.cell? ⟨B, base + i, none⟩ = some x := by
  have : c.toList[base + i]? = some x := by
    rw [← List.getElem?_drop, hd, List.getElem?_append_left (List.getElem?_eq_some_iff.1 hx).1]; exact hx
  simp only [World.cell?, h, Option.isSome_none, Bool.false_eq_true, if_false]
  simpa using this
theorem load_ok (hr : Rep G hole σ s w) {a : AV} {u : Value} (h : doLoad s a = some (v, s')) (ha : VR σ D a u) :
    s' = s ∧ ∃ B o x, u = .pointer (some ⟨B, o, none⟩) ∧ w.cell? ⟨B, o, none⟩ = some x ∧ VR σ ⟨s.next, hole⟩ v x := by
  unfold doLoad at h
  split at h
  · rename_i b o
    split at h
    · rename_i l hl
      split at h
      · rename_i x hx
        cases h
        rw [lget_eq] at hx
        simp only [VR] at ha
        obtain ⟨_, rfl⟩ := ha
        obtain ⟨c, ty, f, us, rest, h1, h2, h3, h4, h5⟩ := hcells_rep hr hl
        obtain ⟨y, hy, hv⟩ := VRs_get h5 hx
        exact ⟨rfl, _, _, y, rfl, cell_of h1 h4 hy, hv⟩
      · cases h
    · cases h
  · cases h
theorem cut_ok (hr : Rep G hole σ s w) {b o n : Nat} {l c : List AV} (hl : hcells s b = some l) (hc : lcut l o n = some c) :
    ∃ cs : List Value, cs.length = n ∧ VRs σ ⟨s.next, hole⟩ c cs ∧ ∀ j x, cs[j]? = some x → w.cell? ((σ.addr b o).add j) = some x := by
  obtain ⟨rfl, hlen⟩ := lcut_ok hc
  obtain ⟨c, ty, f, us, rest, h1, h2, h3, h4, h5⟩ := hcells_rep hr hl
  refine ⟨(us.drop o).take n, ?_, VRs_take n (VRs_drop o h5), fun j x hx => ?_⟩
  · have := VRs_len (VRs_take n (VRs_drop o h5)); rw [this]; exact hlen
  · have : us[o + j]? = some x := by
      rw [← List.getElem?_drop]
      rw [List.getElem?_take] at hx
      split at hx
      · exact hx
      · cases hx
    rw [Sig.addr, add_eq, Nat.add_assoc]
    exact cell_of h1 h4 this
theorem loadN_ok (hr : Rep G hole σ s w) {n : Nat} {a : AV} {u : Value} (h : doLoadN s n a = some (v, s')) (ha : VR σ D a u) :
    s' = s ∧ ∃ (B o : Nat) (cs : List Value), u = .pointer (some ⟨B, o, none⟩) ∧ cs.length = n ∧ (∀ j x, cs[j]? = some x → w.cell? (Addr.add ⟨B, o, none⟩ j) = some x) ∧ VR σ ⟨s.next, hole⟩ v (.agg cs.toArray) := by
  unfold doLoadN at h
  split at h
  · rename_i b o
    split at h
    · rename_i l hl
      split at h
      · rename_i c hc
        cases h
        simp only [VR] at ha
        obtain ⟨_, rfl⟩ := ha
        obtain ⟨cs, h1, h2, h3⟩ := cut_ok hr hl hc
        refine ⟨rfl, _, _, cs, rfl, h1, h3, ?_⟩
        simp only [VR]
        exact ⟨_, rfl, by simpa using h2⟩
      · cases h
    · cases h
  · cases h
theorem isCell_ok {v : AV} {u : Value} (h : isCell v = true) (hv : VR σ D v u) : u.oneCell' = true := by
  cases v with
  | agg l => cases h
  | tup l => cases h
  | bool b => simp only [VR] at hv; subst hv; rfl
  | int k n => simp only [VR] at hv; subst hv; rfl
  | str l => simp only [VR] at hv; obtain ⟨_, rfl, _⟩ := hv; rfl
  | ptr b o => simp only [VR] at hv; obtain ⟨_, rfl⟩ := hv; rfl
  | map b => simp only [VR] at hv; obtain ⟨_, rfl⟩ := hv; rfl
  | fn f c => simp only [VR] at hv; obtain ⟨_, rfl, _⟩ := hv; rfl
  | ifc t v => simp only [VR] at hv; obtain ⟨_, rfl, _⟩ := hv; rfl
  | nil k => cases k <;> (simp only [VR] at hv; subst hv; rfl)
  | slc b o l c => cases c with
    | ex c => simp only [VR] at hv; obtain ⟨_, rfl⟩ := hv; rfl
    | ge c sz => simp only [VR] at hv; obtain ⟨_, _, _, _, rfl⟩ := hv; rfl
  | any => simp only [VR] at hv; exact hv.1
  | emp => simp only [VR] at hv; obtain ⟨_, _, rfl⟩ := hv; rfl
theorem allCell_ok : ∀ {l : List AV} {us : List Value}, allCell l = true → VRs σ D l us → ∀ u ∈ us, u.oneCell' = true
  | [], us, _, h => by rw [VRs_nil] at h; subst h; intro u hu; cases hu
  | a :: l, us, ha, h => by
    obtain ⟨u, us', rfl, h1, h2⟩ := VRs_cons.1 h
    simp only [allCell] at ha
    split at ha
    · rename_i hc
      intro x hx
      cases hx with
      | head => exact isCell_ok hc h1
      | tail _ hx => exact allCell_ok ha h2 x hx
    · cases ha
theorem list_store {α : Type} (l : List α) (n : Nat) (v : α) (vs : List α) (h : n + (vs.length + 1) ≤ l.length) :
    (l.set n v).take (n + 1) ++ vs ++ (l.set n v).drop (n + 1 + vs.length) = l.take n ++ (v :: vs) ++ l.drop (n + (vs.length + 1)) := by
  have hn : n < l.length := by omega
  have e : l.set n v = l.take n ++ v :: l.drop (n + 1) := by rw [List.set_eq_take_append_cons_drop, if_pos hn]
  have hl : (l.take n).length = n := by simp; omega
  have t1 : (l.take n ++ v :: l.drop (n + 1)).take (n + 1) = l.take n ++ [v] := by
    rw [List.take_append, hl, List.take_of_length_le (l := l.take n) (by rw [hl]; omega), show n + 1 - n = 1 by omega]; rfl
  have t2 : (l.take n ++ v :: l.drop (n + 1)).drop (n + 1 + vs.length) = l.drop (n + (vs.length + 1)) := by
    rw [List.drop_append, hl, List.drop_of_length_le (l := l.take n) (by rw [hl]; omega), show n + 1 + vs.length - n = vs.length + 1 by omega]
    simp only [List.drop_succ_cons, List.nil_append, List.drop_drop]
    congr 1; omega
  rw [e, t1, t2]; simp
/-- a row of stores into one block -/
theorem run_storeCells {B off : Nat} {ty : TypeId} {f : Nat × Nat} : ∀ (vs : List Value) (i : Nat) (w : World) (c : Array Value), w.heap[B]? = some (.cells c ty f) → (∀ k, k < c.size → ¬ (f.1 ≤ k ∧ k < f.2)) →
    off + i + vs.length ≤ c.size → (∀ u ∈ vs, u.oneCell' = true) →
    ∃ w' c', (storeCells ⟨B, off, none⟩ vs i).run P w = .ok () w' ∧ w'.heap[B]? = some (.cells c' ty f) ∧ c'.toList = c.toList.take (off + i) ++ vs ++ c.toList.drop (off + i + vs.length) ∧
      (∀ k, k ≠ B → w'.heap[k]? = w.heap[k]?) ∧ w'.heap.size = w.heap.size ∧ w'.os = w.os ∧ w'.tape = w.tape ∧ w'.output = w.output
  | [], i, w, c, h, _, _, _ => ⟨w, c, by simp [storeCells], h, by simp, fun _ _ => rfl, rfl, rfl, rfl, rfl⟩
  | v :: vs, i, w, c, h, hf, hl, hv => by
    simp only [List.length_cons] at hl
    have hlt : off + i < c.size := by omega
    have hc : w.cell? ⟨B, off + i, none⟩ = some c[off + i] := by simp [World.cell?, h, hlt]
    have hfz : w.frozen? ⟨B, off + i, none⟩ = false := by
      simp only [World.frozen?, h]
      have := hf (off + i) hlt
      simp only [Bool.and_eq_false_iff, decide_eq_false_iff_not]
      by_cases h1 : f.1 ≤ off + i
      · right; exact fun h2 => this ⟨h1, h2⟩
      · left; exact h1
    have hs : (store (Addr.add ⟨B, off, none⟩ i) v).run P w = .ok () (w.setCell ⟨B, off + i, none⟩ v) := by
      rw [add_eq, run_store P w _ v _ (hv v (List.mem_cons_self ..)), hc]
      simp [hfz]
    have hB : B < w.heap.size := (Array.getElem?_eq_some_iff.1 h).1
    have h' : (w.setCell ⟨B, off + i, none⟩ v).heap[B]? = some (.cells (c.setIfInBounds (off + i) v) ty f) := by
      simp only [World.setCell, Array.getElem?_modify, if_true, h, Option.map_some, Option.isSome_none, Bool.false_eq_true, if_false]
    obtain ⟨w', c', r1, r2, r3, r4, r5, r6, r7, r8⟩ := run_storeCells (B := B) (off := off) vs (i + 1) (w.setCell ⟨B, off + i, none⟩ v) (c.setIfInBounds (off + i) v) h' (by simpa using hf) (by rw [Array.size_setIfInBounds]; omega) (fun u hu => hv u (List.mem_cons_of_mem _ hu))
    refine ⟨w', c', ?_, r2, ?_, fun k hk => (r4 k hk).trans ?_, r5.trans (by simp), r6, r7, r8⟩
    · simp only [storeCells, Sem.run_bind, hs, Result.andThen_ok]; exact r1
    · rw [r3]
      simp only [Array.toList_setIfInBounds]
      rw [show off + (i + 1) = off + i + 1 by omega]
      exact list_store c.toList (off + i) v vs (by simpa using hl)
    · simp only [World.setCell, Array.getElem?_modify]
      rw [if_neg (by omega)]
end
end Ax
namespace Ax
open Go
section
variable {G : Nat} {hole : Nat → Prop} {σ : Sig} {s s' : St} {w : World} {v : AV} {P : Program} {D : Dom}
theorem list_over {α : Type} (C us rest vs : List α) (base o : Nat) (hC : C.drop base = us ++ rest) (hb : base ≤ C.length) (ho : o + vs.length ≤ us.length) :
    (C.take (base + o) ++ vs ++ C.drop (base + o + vs.length)).drop base = (us.take o ++ vs ++ us.drop (o + vs.length)) ++ rest := by
  have h1 : (C.take (base + o)).drop base = us.take o := by
    rw [List.drop_take, hC, show base + o - base = o by omega, List.take_append_of_le_length (by omega)]
  have h2 : C.drop (base + o + vs.length) = us.drop (o + vs.length) ++ rest := by
    rw [Nat.add_assoc, ← List.drop_drop, hC, List.drop_append_of_le_length ho]
  have hl : base ≤ (C.take (base + o)).length := by simp; omega
  rw [List.append_assoc, List.drop_append_of_le_length hl, h1, h2]
  simp
theorem write_post (hr : Rep G hole σ s w) {b o nn : Nat} {ty : TypeId} {l c : List AV} {vs : List Value} (hb : hget s.heap b = some (.cells ty l)) (hl : o + c.length ≤ l.length)
    (hv : VRs σ ⟨s.next, hole⟩ c vs) (hone : ∀ u ∈ vs, u.oneCell' = true) (hn : nn = 0 ∨ c.length ≤ nn) :
    ∃ w', (storeCells (σ.addr b o) vs 0).run P w = .ok () w' ∧
      Post G hole σ s w [(b, o, nn)] σ ⟨hset (some (.cells ty (l.take o ++ c ++ l.drop (o + c.length)))) bits64 s.heap b, s.next, (b, o, nn) :: s.wlog⟩ w' := by
  obtain ⟨cc, f, h1, h2, h3, us, rest, h4, h5, h6⟩ := (hr.objs b _ hb).2
  have hus := VRs_len h6
  have hvs := VRs_len hv
  have hfit : (σ b).2.1 + o + 0 + vs.length ≤ cc.size := by
    have : (cc.toList.drop (σ b).2.1).length = us.length + rest.length := by rw [h4]; simp
    simp at this; omega
  obtain ⟨w', c', r1, r2, r3, r4, r5, r6, r7, r8⟩ := run_storeCells (P := P) (off := (σ b).2.1 + o) vs 0 w cc h1 h3 hfit hone
  rw [Nat.add_zero] at r3
  have hc'size : c'.size = cc.size := by
    have : c'.toList.length = cc.toList.length := by rw [r3]; simp; omega
    simpa using this
  refine ⟨w', r1, ?_⟩
  cases s with
  | mk h n wl =>
  refine Post.put' hr hb r6 r7 r8 r5 r4 ?_ ?_
  · intro off hno
    simp only [World.cell?, r2, h1, Option.isSome_none, Bool.false_eq_true, if_false]
    rw [← Array.getElem?_toList, ← Array.getElem?_toList, r3]
    have hno' : ¬ (nn = 0 ∨ ((σ b).2.1 + o ≤ off ∧ off < (σ b).2.1 + o + nn)) := fun hh => hno ⟨rfl, hh⟩
    have hnn : c.length ≤ nn := by
      rcases hn with h | h
      · exact absurd (Or.inl h) hno'
      · exact h
    have hcl : cc.toList.length = cc.size := by simp
    by_cases hlt : off < (σ b).2.1 + o
    · rw [List.append_assoc, List.getElem?_append_left (by simp; omega), List.getElem?_take, if_pos hlt]
    · have hge : (σ b).2.1 + o + vs.length ≤ off := by
        rcases Nat.lt_or_ge off ((σ b).2.1 + o + nn) with h | h
        · exact absurd (Or.inr ⟨by omega, h⟩) hno'
        · omega
      rw [List.getElem?_append_right (by simp; omega), List.getElem?_drop]
      congr 1
      simp; omega
  · intro o' ho'
    cases ho'
    refine ⟨c', f, r2, hc'size.trans h2, by rw [hc'size]; exact h3, us.take o ++ vs ++ us.drop (o + vs.length), rest, ?_, by rw [hc'size]; exact h5, ?_⟩
    · rw [r3]; exact list_over _ _ _ _ _ _ h4 (by simpa using h5) (by omega)
    · rw [← hvs]
      exact VRs_append (VRs_append (VRs_take o h6) hv) (VRs_drop _ h6)
theorem store_ok (hr : Rep G hole σ s w) {t : TypeId} {i : TypeInfo} (hi : P.info? t = some i) (hs : i.size = 1) {a v₀ : AV} {u x : Value} (h : doStore s a v₀ = some (v, s')) (ha : VR σ ⟨s.next, hole⟩ a u) (hv : VR σ ⟨s.next, hole⟩ v₀ x) :
    v = unit ∧ ∃ w' log, (Instr.storeAt t u x).run P w = .ok () w' ∧ s'.wlog = log ++ s.wlog ∧ Post G hole σ s w log σ s' w' := by
  unfold doStore at h
  split at h
  · rename_i b o
    split at h
    · rename_i ty l hb
      split at h
      · rename_i hc
        split at h
        · rename_i l' hl'
          obtain ⟨hlt, rfl⟩ := lset1_ok hl'
          simp only [VR] at ha
          obtain ⟨_, rfl⟩ := ha
          have hone := isCell_ok hc hv
          have hx : x.cells = #[x] := by cases x <;> first | rfl | (simp [Value.oneCell'] at hone)
          obtain ⟨w', r1, r2⟩ := write_post (P := P) (nn := 1) hr hb (o := o) (c := [v₀]) (vs := [x]) (by simp; omega) (VRs_cons'.2 ⟨hv, VRs_nil.2 rfl⟩) (by simpa using hone) (.inr (by simp))
          have e : l.set o v₀ = l.take o ++ [v₀] ++ l.drop (o + [v₀].length) := by rw [List.set_eq_take_append_cons_drop, if_pos hlt]; simp
          cases s with
          | mk hh n wl =>
          simp only [sputO, Option.some.injEq, Prod.mk.injEq] at h
          obtain ⟨rfl, rfl⟩ := h
          refine ⟨rfl, w', [(b, o, 1)], ?_, rfl, ?_⟩
          · simp only [Instr.storeAt, Sem.run_bind, Instr.sureAddr, Sem.run_pure, Result.andThen_ok, storeVar, run_size hi, hs, hx]
            simpa using r1
          · rw [e]; exact r2
        · cases h
      · cases h
    · cases h
  · cases h
theorem storeN_ok (hr : Rep G hole σ s w) {t : TypeId} {i : TypeInfo} {n : Nat} (hi : P.info? t = some i) (hs : i.size = n) {a v₀ : AV} {u x : Value} (h : doStoreN s n a v₀ = some (v, s')) (ha : VR σ ⟨s.next, hole⟩ a u) (hv : VR σ ⟨s.next, hole⟩ v₀ x) :
    v = unit ∧ ∃ w' log, (Instr.storeAt t u x).run P w = .ok () w' ∧ s'.wlog = log ++ s.wlog ∧ Post G hole σ s w log σ s' w' := by
  unfold doStoreN at h
  split at h
  · rename_i b o
    split at h
    · rename_i c
      split at h
      · rename_i hlen
        rw [llen_eq] at hlen
        have hlen' := beq_iff.1 hlen
        split at h
        · rename_i ty l hb
          split at h
          · rename_i l' hall hl'
            obtain ⟨hle, rfl⟩ := lsets_ok hl'
            simp only [VR] at ha hv
            obtain ⟨_, rfl⟩ := ha
            obtain ⟨cs, rfl, hcs⟩ := hv
            obtain ⟨w', r1, r2⟩ := write_post (P := P) (nn := n) hr hb (o := o) hle hcs (allCell_ok hall hcs) (.inr (by omega))
            cases s with
            | mk hh nx wl =>
            simp only [sputO, Option.some.injEq, Prod.mk.injEq] at h
            obtain ⟨rfl, rfl⟩ := h
            refine ⟨rfl, w', [(b, o, n)], ?_, rfl, r2⟩
            have hz : cs.size = n := by have := VRs_len hcs; simpa [hlen'] using this
            simp only [Instr.storeAt, Sem.run_bind, Instr.sureAddr, Sem.run_pure, Result.andThen_ok, storeVar, run_size hi, hs, Value.cells, hz]
            simpa using r1
          · cases h
        · cases h
      · cases h
    · cases h
  · cases h
/-- A NEW ROW OF CELLS. -/
theorem new_cells (hr : Rep G hole σ s w) {ty : TypeId} {l : List AV} {us : List Value} {pad : List Value} {v₀ : AV} {f₀ f₁ : Nat} (h : snew s (.cells ty l) v₀ = some (v, s')) (hu : VRs σ ⟨s.next, hole⟩ l us) {w' : World}
    (hheap : w'.heap = w.heap.push (.cells (us ++ pad).toArray ty (f₀, f₁))) (hf : ∀ i, i < us.length + pad.length → ¬ (f₀ ≤ i ∧ i < f₁)) (hos : w'.os = w.os) (htp : w'.tape = w.tape) (hout : w'.output = w.output) :
    v = v₀ ∧ s'.wlog = s.wlog ∧ s'.next = s.next + 1 ∧ Post G hole σ s w [] (σ.at s.next w.heap.size 0 (us.length + pad.length)) s' w' := by
  cases s with
  | mk hh n wl =>
  simp only [snew] at h
  split at h
  · rename_i hb
    simp only [Option.some.injEq, Prod.mk.injEq] at h
    obtain ⟨rfl, rfl⟩ := h
    refine ⟨rfl, rfl, rfl, ?_⟩
    refine Post.new' hr (ble_iff.1 hb) hheap hos htp hout ?_
    refine ⟨(us ++ pad).toArray, (f₀, f₁), ?_, ?_, ?_, us, pad, ?_, Nat.zero_le _ |> fun h => by rw [Sig.at_self]; exact h, VRs.mono (Dom.up _ _ _) _ _ hu⟩
    · rw [Sig.at_self, hheap]; simp
    · rw [Sig.at_self]; simp
    · simpa using hf
    · rw [Sig.at_self]; simp
  · cases h
theorem at_ok {n B size : Nat} {hole : Nat → Prop} (hn : ¬ hole n) (o : Nat) : VR (σ.at n B 0 size) ⟨n + 1, hole⟩ (.ptr n o) (.pointer (some ⟨B, o, none⟩)) := by
  simp only [VR]
  exact ⟨⟨Nat.lt_succ_self n, hn⟩, by simp only [Sig.addr, Sig.at_self, Nat.zero_add]⟩
end
end Ax
