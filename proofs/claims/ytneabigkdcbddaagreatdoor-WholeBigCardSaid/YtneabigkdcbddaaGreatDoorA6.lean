/- Maps: keys. · Maps: the search. · Maps: the operations. · Maps: the operations; texts that are ranged over. · Entries; texts that are ranged over. · Every operation but the calls. · What an operation looks at; which leave the state alone. -/
import Derived.Test.YtneabigkdcbddaaGreatDoorA5
set_option linter.unusedVariables false
set_option linter.unusedSimpArgs false
set_option linter.unusedSectionVars false
set_option linter.unnecessarySimpa false
namespace Ax
open Go
section
variable {P : Program} {σ : Sig} {D : Dom} {w : World} {kt : TypeId} {kk : EK}
theorem keq_eq {a b : AV} {x y : Value} {r : Bool} (hk : ekOf P kt = some kk) (h : keq kk a b = some r) (hx : VR σ D a x) (hy : VR σ D b y) (n : Nat) : (Op.equalIn (n + 1 + 1) kt x y).run P w = .ok r w := by
  unfold keq at h
  split at h
  · rename_i k
    unfold ekOf at hk
    split at hk <;> try (cases hk; done)
    rename_i d hd
    split at hk
    · split at hk
      · split at hk <;> cases hk
      · cases hk
    · cases hk
    · cases hk
    · cases hk
    · cases hk
    · split at hk <;> cases hk
    · split at hk <;> try (cases hk; done)
      rename_i k' hk'
      cases hk
      exact seq_ok (n + 1) h hx hy hd hk'
  · rename_i ks
    split at h <;> try (cases h; done)
    split at h <;> try (cases h; done)
    simp only [VR] at hx hy
    obtain ⟨xs, rfl, hxs⟩ := hx
    obtain ⟨ys, rfl, hys⟩ := hy
    unfold ekOf at hk
    split at hk <;> try (cases hk; done)
    rename_i d hd
    split at hk
    · split at hk
      · split at hk <;> cases hk
      · cases hk
    · cases hk
    · cases hk
    · cases hk
    · cases hk
    · rename_i fs
      split at hk <;> try (cases hk; done)
      rename_i ks' hfk hg hst
      cases hk
      have hf : P.fieldsOf kt = fs := by simp [Program.fieldsOf, hd]
      rw [run_equalIn_struct w (n + 1) kt xs ys (by rw [hf]; exact hd) hst, hf]
      exact eqFields_ok n xs ys fs.toList 0 ks _ _ r hfk h (by simpa using hxs) (by simpa using hys)
    · split at hk <;> cases hk
  · cases h
theorem keq_equal {a b : AV} {x y : Value} {r : Bool} (hk : ekOf P kt = some kk) (h : keq kk a b = some r) (hx : VR σ D a x) (hy : VR σ D b y) : (Op.equal kt x y).run P w = .ok r w := keq_eq hk h hx hy 9998
theorem sc_desc {k : SK} (hk : ekOf P kt = some (.sc k)) : ∃ d, P.underlying kt = some d ∧ skOf d = some k := by
  unfold ekOf at hk
  split at hk <;> try (cases hk; done)
  rename_i d hd
  split at hk
  · split at hk
    · split at hk <;> cases hk
    · cases hk
  · cases hk
  · cases hk
  · cases hk
  · cases hk
  · split at hk <;> cases hk
  · split at hk <;> try (cases hk; done)
    rename_i k' hk'
    cases hk
    exact ⟨d, hd, hk'⟩
theorem agg_desc {ks : List SK} (hk : ekOf P kt = some (.agg ks)) : ∃ fs, P.underlying kt = some (.struct fs) ∧ fieldKinds P fs.toList 0 = some ks := by
  unfold ekOf at hk
  split at hk <;> try (cases hk; done)
  rename_i d hd
  split at hk
  · split at hk
    · split at hk <;> cases hk
    · cases hk
  · cases hk
  · cases hk
  · cases hk
  · cases hk
  · split at hk <;> try (cases hk; done)
    rename_i ks' hks _ _
    cases hk
    exact ⟨_, hd, hks⟩
  · split at hk <;> try (cases hk; done)
/-- two scalars of a kind, as the map's search sees them -/
theorem seq_now {k : SK} {d : TypeDesc} {a b : AV} {x y : Value} {r : Bool} (h : seq k a b = some r) (hd : skOf d = some k) (hx : VR σ D a x) (hy : VR σ D b y) : Instr.sameNow d x y = some r := by
  cases k with
  | b =>
    simp only [seq] at h
    split at h <;> try (cases h; done)
    split at h <;> try (cases h; done)
    cases h
    have := VR_bool.1 hx; subst this
    have := VR_bool.1 hy; subst this
    rename_i p _ q
    cases d <;> simp [skOf] at hd
    cases p <;> cases q <;> rfl
  | n =>
    simp only [seq] at h
    split at h <;> try (cases h; done)
    split at h <;> try (cases h; done)
    split at h <;> try (cases h; done)
    rename_i hkk
    cases h
    have := kindEq_ok hkk; subst this
    have := VR_int.1 hx; subst this
    have := VR_int.1 hy; subst this
    cases d <;> simp [skOf] at hd
    simp [Instr.sameNow, ieq_eq]
  | s =>
    simp only [seq] at h
    split at h <;> try (cases h; done)
    split at h <;> try (cases h; done)
    cases h
    simp only [VR] at hx hy
    obtain ⟨s1, rfl, rfl⟩ := hx
    obtain ⟨s2, rfl, rfl⟩ := hy
    cases d <;> simp [skOf] at hd
    simp only [Instr.sameNow, str_beq]
    congr 1
    rw [Bool.eq_iff_iff, MapKept.bytes_beq]
    constructor
    · rintro rfl; simp
    · intro h; have := eq_of_beq h; exact ByteArray.ext (Array.ext' (by simpa [ByteArray.toList_eq] using this))
theorem seq_bits {k : SK} {a b : AV} {x y : Value} (h : seq k a b = some true) (hx : VR σ D a x) (hy : VR σ D b y) (n : Nat) : Instr.sameBits n y x = true := by
  cases k with
  | b =>
    simp only [seq] at h
    split at h <;> try (cases h; done)
    split at h <;> try (cases h; done)
    have := VR_bool.1 hx; subst this
    have := VR_bool.1 hy; subst this
    rename_i p _ q
    cases p <;> cases q <;> simp [Instr.sameBits, bnot] at h ⊢
  | n =>
    simp only [seq] at h
    split at h <;> try (cases h; done)
    split at h <;> try (cases h; done)
    split at h <;> try (cases h; done)
    rename_i hkk
    have := kindEq_ok hkk; subst this
    have := VR_int.1 hx; subst this
    have := VR_int.1 hy; subst this
    rw [ieq_eq] at h
    simp at h
    subst h
    cases n <;> simp [Instr.sameBits]
  | s =>
    simp only [seq] at h
    split at h <;> try (cases h; done)
    split at h <;> try (cases h; done)
    simp only [VR] at hx hy
    obtain ⟨s1, rfl, rfl⟩ := hx
    obtain ⟨s2, rfl, rfl⟩ := hy
    rw [str_beq] at h
    have h' : s1 = s2 := by
      have := eq_of_beq (Option.some.inj h); exact ByteArray.ext (Array.ext' (by simpa [ByteArray.toList_eq] using this))
    subst h'
    have : (s1 == s1) = true := (MapKept.bytes_beq s1 s1).2 rfl
    cases n <;> simp [Instr.sameBits, this]
theorem seqs_bits : ∀ {ks : List SK} {a b : List AV} {xs ys : List Value}, seqs ks a b = some true → VRs σ D a xs → VRs σ D b ys → ∀ n, xs.length = ys.length ∧ ((ys.zip xs).all fun (x, y) => Instr.sameBits n x y) = true
  | [], a, b, xs, ys, h, ha, hb, n => by
    cases a <;> cases b <;> simp only [seqs] at h <;> try (cases h; done)
    rw [VRs_nil] at ha hb; subst ha hb; simp
  | k :: ks, a, b, xs, ys, h, ha, hb, n => by
    cases a with
    | nil => simp only [seqs] at h; cases h
    | cons p a =>
    cases b with
    | nil => simp only [seqs] at h; cases h
    | cons q b =>
    obtain ⟨u, us, rfl, h1, h2⟩ := VRs_cons.1 ha
    obtain ⟨u', us', rfl, h1', h2'⟩ := VRs_cons.1 hb
    simp only [seqs] at h
    cases hs : seq k p q with
    | none => rw [hs] at h; cases h
    | some z =>
      rw [hs] at h
      cases z with
      | false => cases h
      | true =>
        obtain ⟨e1, e2⟩ := seqs_bits h h2 h2' n
        simp only [List.length_cons, e1, List.zip_cons_cons, List.all_cons, e2, seq_bits hs h1 h1', Bool.and_true]
        exact ⟨trivial, trivial⟩
theorem keq_bits {a b : AV} {x y : Value} (h : keq kk a b = some true) (hx : VR σ D a x) (hy : VR σ D b y) : Instr.sameBits 10000 y x = true := by
  unfold keq at h
  split at h
  · exact seq_bits h hx hy _
  · split at h <;> try (cases h; done)
    split at h <;> try (cases h; done)
    simp only [VR] at hx hy
    obtain ⟨xs, rfl, hxs⟩ := hx
    obtain ⟨ys, rfl, hys⟩ := hy
    obtain ⟨e1, e2⟩ := seqs_bits h hxs hys 9999
    show (ys.size == xs.size && (ys.toList.zip xs.toList).all fun (x, y) => Instr.sameBits 9999 x y) = true
    rw [e2]
    simp at e1
    simp [e1]
  · cases h
end
end Ax
namespace Ax
open Go
def bump : Option Nat → Option Nat | some n => some (Nat.add n 1) | none => none
/-- the place of a key -/
def posE (kk : EK) (k : AV) : List (AV × AV × Nat) → Option (Option Nat)
  | [] => some none
  | (a, _, _) :: r => match keq kk k a with | some true => some (some 0) | some false => (match posE kk k r with | some p => some (bump p) | none => none) | none => none
section
variable {P : Program} {σ : Sig} {D : Dom} {w : World} {kt : TypeId} {kk : EK} {k : AV} {x : Value}
theorem ER_get : ∀ {l : List (AV × AV × Nat)} {es : List MapEntry} {j : Nat} {k v : AV} {n : Nat}, ER σ D l es → l[j]? = some (k, v, n) → ∃ e, es[j]? = some e ∧ VR σ D k e.key ∧ VR σ D v e.val ∧ e.born = n
  | [], es, j, k, v, n, _, h => by simp at h
  | (a, b, c) :: l, es, j, k, v, n, h, hj => by
    obtain ⟨e, es', rfl, h1, h2, h3, h4⟩ := h
    cases j with
    | zero => simp at hj; obtain ⟨rfl, rfl, rfl⟩ := hj; exact ⟨e, rfl, h1, h2, h3⟩
    | succ j => simp at hj ⊢; exact ER_get h4 hj
theorem ER_append : ∀ {l m : List (AV × AV × Nat)} {es fs : List MapEntry}, ER σ D l es → ER σ D m fs → ER σ D (l ++ m) (es ++ fs)
  | [], m, es, fs, h, hm => by simp only [ER] at h; subst h; simpa using hm
  | (a, b, c) :: l, m, es, fs, h, hm => by
    obtain ⟨e, es', rfl, h1, h2, h3, h4⟩ := h
    exact ⟨e, es' ++ fs, rfl, h1, h2, h3, ER_append h4 hm⟩
theorem ER_set : ∀ {l : List (AV × AV × Nat)} {es : List MapEntry} (j : Nat) {k v : AV} {n : Nat} {f : MapEntry → MapEntry}, ER σ D l es → (∀ e, es[j]? = some e → VR σ D k (f e).key ∧ VR σ D v (f e).val ∧ (f e).born = n) →
    ER σ D (l.set j (k, v, n)) (es.modify j f)
  | [], es, j, k, v, n, f, h, _ => by simp only [ER] at h; subst h; simp [ER]
  | (a, b, c) :: l, es, 0, k, v, n, f, h, hf => by
    obtain ⟨e, es', rfl, h1, h2, h3, h4⟩ := h
    obtain ⟨g1, g2, g3⟩ := hf e rfl
    simp only [List.set_cons_zero, List.modify_zero_cons]
    exact ⟨f e, es', rfl, g1, g2, g3, h4⟩
  | (a, b, c) :: l, es, j + 1, k, v, n, f, h, hf => by
    obtain ⟨e, es', rfl, h1, h2, h3, h4⟩ := h
    simp only [List.set_cons_succ, List.modify_succ_cons]
    exact ⟨e, _, rfl, h1, h2, h3, ER_set j h4 (fun e he => hf e (by simpa using he))⟩
theorem findE_pos : ∀ {l : List (AV × AV × Nat)} {res : Option (AV × Nat)}, findE kk k l = some res → ∃ p, posE kk k l = some p ∧ (p = none → res = none) ∧ (∀ j, p = some j → ∃ a v n, l[j]? = some (a, v, n) ∧ res = some (v, n) ∧ keq kk k a = some true)
  | [], res, h => by simp only [findE, Option.some.injEq] at h; subst h; exact ⟨none, rfl, fun _ => rfl, fun j hj => (by cases hj)⟩
  | (a, v, n) :: l, res, h => by
    simp only [findE] at h
    simp only [posE]
    cases hq : keq kk k a with
    | none => rw [hq] at h; cases h
    | some z =>
      rw [hq] at h
      cases z with
      | true => cases h; exact ⟨some 0, rfl, fun h => (by cases h), fun j hj => by cases hj; exact ⟨a, v, n, rfl, rfl, hq⟩⟩
      | false =>
        obtain ⟨p, h1, h2, h3⟩ := findE_pos h
        simp only [h1]
        refine ⟨bump p, rfl, ?_, ?_⟩
        · intro hp; cases p with
          | none => exact h2 rfl
          | some j => cases hp
        · intro j hj
          cases p with
          | none => cases hj
          | some i => cases hj; obtain ⟨b, v', n', g1, g2⟩ := h3 i rfl; exact ⟨b, v', n', by simpa using g1, g2⟩
theorem updE_pos {v : AV} {c : Nat} : ∀ {l l' : List (AV × AV × Nat)} {c' : Nat}, updE kk k v c l = some (l', c') → ∃ p, posE kk k l = some p ∧ (p = none → l' = l ++ [(k, v, c)] ∧ c' = c + 1) ∧
    (∀ j, p = some j → ∃ a u n, l[j]? = some (a, u, n) ∧ l' = l.set j (k, v, n) ∧ c' = c ∧ keq kk k a = some true)
  | [], l', c', h => by simp only [updE, Option.some.injEq, Prod.mk.injEq] at h; obtain ⟨rfl, rfl⟩ := h; exact ⟨none, rfl, fun _ => ⟨rfl, rfl⟩, fun j hj => (by cases hj)⟩
  | (a, u, n) :: l, l', c', h => by
    simp only [updE] at h
    simp only [posE]
    cases hq : keq kk k a with
    | none => rw [hq] at h; cases h
    | some z =>
      rw [hq] at h
      cases z with
      | true => cases h; exact ⟨some 0, rfl, fun h => (by cases h), fun j hj => by cases hj; exact ⟨a, u, n, rfl, rfl, rfl, hq⟩⟩
      | false =>
        simp only at h
        split at h <;> try (cases h; done)
        rename_i r cc hr
        cases h
        obtain ⟨p, h1, h2, h3⟩ := updE_pos hr
        simp only [h1]
        refine ⟨bump p, rfl, ?_, ?_⟩
        · intro hp; cases p with
          | none => obtain ⟨e1, e2⟩ := h2 rfl; subst e1; exact ⟨rfl, e2⟩
          | some j => cases hp
        · intro j hj
          cases p with
          | none => cases hj
          | some i => cases hj; obtain ⟨b, u', n', g1, g2, g3, g4⟩ := h3 i rfl; subst g2; exact ⟨b, u', n', by simpa using g1, rfl, g3, g4⟩
theorem now_ok {d : TypeDesc} {q : SK} (hd : skOf d = some q) (hx : VR σ D k x) : ∀ {l : List (AV × AV × Nat)} {es : List MapEntry} {p : Option Nat} (i : Nat), posE (.sc q) k l = some p → ER σ D l es →
    Instr.findNow d x es i = some (p.map fun j => (i + j, ((es[j]?).getD default).val))
  | [], es, p, i, h, he => by simp only [posE, Option.some.injEq] at h; subst h; simp only [ER] at he; subst he; rfl
  | (a, v, n) :: l, es, p, i, h, he => by
    obtain ⟨e, es', rfl, h1, h2, h3, h4⟩ := he
    simp only [posE] at h
    cases hq : keq (.sc q) k a with
    | none => rw [hq] at h; cases h
    | some z =>
      rw [hq] at h
      have hs := seq_now hq hd hx h1
      cases z with
      | true => cases h; simp [Instr.findNow, hs]
      | false =>
        simp only at h
        split at h <;> try (cases h; done)
        rename_i p' hp'
        cases h
        have ih := now_ok hd hx (i + 1) hp' h4
        simp only [Instr.findNow, hs, ih]
        cases p' with
        | none => rfl
        | some j => simp only [bump, Option.map_some, List.getElem?_cons_succ, Nat.add_eq, Option.some.injEq, Prod.mk.injEq, and_true]; omega
theorem asking_ok (hk : ekOf P kt = some kk) (hx : VR σ D k x) : ∀ {l : List (AV × AV × Nat)} {es : List MapEntry} {p : Option Nat} (i : Nat), posE kk k l = some p → ER σ D l es →
    (Instr.findAsking kt x es i).run P w = .ok (p.map fun j => (i + j, ((es[j]?).getD default).val)) w
  | [], es, p, i, h, he => by simp only [posE, Option.some.injEq] at h; subst h; simp only [ER] at he; subst he; rfl
  | (a, v, n) :: l, es, p, i, h, he => by
    obtain ⟨e, es', rfl, h1, h2, h3, h4⟩ := he
    simp only [posE] at h
    cases hq : keq kk k a with
    | none => rw [hq] at h; cases h
    | some z =>
      rw [hq] at h
      have hs := keq_equal (w := w) hk hq hx h1
      cases z with
      | true => cases h; simp [Instr.findAsking, hs]
      | false =>
        simp only at h
        split at h <;> try (cases h; done)
        rename_i p' hp'
        cases h
        have ih := asking_ok hk hx (i + 1) hp' h4
        simp only [Instr.findAsking, Sem.run_bind, hs, Result.andThen_ok, Bool.false_eq_true, if_false, ih]
        cases p' with
        | none => rfl
        | some j => simp only [bump, Option.map_some, List.getElem?_cons_succ, Nat.add_eq, Result.ok.injEq, Option.some.injEq, Prod.mk.injEq, and_true]; omega
theorem ek_sorts {a : AV} (h : keyOk kk a = true) : (∃ q, kk = .sc q) ∨ ∃ ks, kk = .agg ks := by
  unfold keyOk at h
  split at h <;> first | exact .inl ⟨_, rfl⟩ | exact .inr ⟨_, rfl⟩ | cases h
theorem findKey_ok (hk : ekOf P kt = some kk) (hok : keyOk kk k = true) (hx : VR σ D k x) {l : List (AV × AV × Nat)} {es : List MapEntry} {p : Option Nat} (h : posE kk k l = some p) (he : ER σ D l es) :
    (Instr.findKey kt x es).run P w = .ok (p.map fun j => (j, ((es[j]?).getD default).val)) w := by
  rcases ek_sorts hok with ⟨q, rfl⟩ | ⟨ks, rfl⟩
  · obtain ⟨d, hd, hq⟩ := sc_desc hk
    have := now_ok hq hx 0 h he
    simp only [Nat.zero_add] at this
    simp only [Instr.findKey, Sem.run_bind, run_und hd, Result.andThen_ok, this, Sem.run_pure]
  · obtain ⟨fs, hd, hq⟩ := agg_desc hk
    have ha := asking_ok (w := w) hk hx 0 h he
    simp only [Nat.zero_add] at ha
    simp only [Instr.findKey, Sem.run_bind, run_und hd, Result.andThen_ok]
    cases l with
    | nil =>
      simp only [ER] at he; subst he
      simp only [posE, Option.some.injEq] at h; subst h
      rfl
    | cons y l =>
      obtain ⟨e, es', rfl, _⟩ := he
      have : Instr.findNow (.struct fs) x (e :: es') 0 = none := rfl
      rw [this]
      exact ha
theorem run_forIn_unit {α : Type} (f : α → PUnit → Sem (ForInStep PUnit)) : ∀ (l : List α), (∀ x ∈ l, (f x ⟨⟩).run P w = .ok (.yield ⟨⟩) w) → (forIn l PUnit.unit f : Sem PUnit).run P w = .ok ⟨⟩ w
  | [], _ => rfl
  | y :: l, h => by
    rw [List.forIn_cons, Sem.run_bind, h y (List.mem_cons_self ..)]
    exact run_forIn_unit f l (fun z hz => h z (List.mem_cons_of_mem _ hz))
theorem fk_each : ∀ {fs : List Field} {i : Nat} {ks : List SK}, fieldKinds P fs i = some ks → ks.length = fs.length ∧ ∀ f ∈ fs, ∃ d q, P.underlying f.type = some d ∧ skOf d = some q ∧ f.offset < i + fs.length
  | [], i, ks, h => by simp only [fieldKinds, Option.some.injEq] at h; subst h; exact ⟨rfl, fun f hf => by cases hf⟩
  | g :: fs, i, ks, h => by
    simp only [fieldKinds] at h
    split at h <;> try (cases h; done)
    rename_i d hname hoff hd
    split at h <;> try (cases h; done)
    rename_i q ks' hq hks
    cases h
    obtain ⟨h1, h2⟩ := fk_each hks
    refine ⟨by simp [h1], fun f hf => ?_⟩
    cases hf with
    | head => have := beq_iff.1 hoff; exact ⟨d, q, hd, hq, by simp; omega⟩
    | tail _ hf => obtain ⟨d', q', g1, g2, g3⟩ := h2 f hf; exact ⟨d', q', g1, g2, by simp; omega⟩
theorem scOk_len : ∀ {ks : List SK} {l : List AV}, keyOk.scOk ks l = true → l.length = ks.length
  | [], [], _ => rfl
  | [], _ :: _, h => by simp [keyOk.scOk] at h
  | k :: ks, [], h => by cases k <;> simp [keyOk.scOk] at h
  | k :: ks, a :: l, h => by
    have : keyOk.scOk ks l = true := by
      cases k <;> cases a <;> first | exact h | (simp [keyOk.scOk] at h)
    simp [scOk_len this]
end
end Ax
namespace Ax
open Go
section
variable (P : Program) (G : Nat)
def zeroAV (t : TypeId) : Option AV := match P.info? t with | some i => (match i.zero with | some z => cv 3 z | none => none) | none => none
def trMakeMap (t : TypeId) (r : Option Operand) : Option IK :=
  match r with
  | none => some .makeMap
  | some (.const (.int _ _)) => (match P.underlying t with | some (.map _ _) => some .makeMap | _ => none)
  | _ => none
def trLookup (t : TypeId) (x i : Operand) (ok : Bool) : Option IK :=
  match P.underlying t with
  | some (.map kt et) => (match ekOf P kt, zeroAV P et with | some kk, some z => m2 (ta G x) (ta G i) (.lookup kk z ok) | _, _ => none)
  | _ => none
def trMapUpdate (t : TypeId) (m k x : Operand) : Option IK :=
  match P.underlying t with
  | some (.map kt _) => (match ekOf P kt with | some kk => m3 (ta G m) (ta G k) (ta G x) (.mapUpdate kk) | _ => none)
  | _ => none
def trMapEntry (t : TypeId) (m k : Operand) : Option IK :=
  match P.underlying t with
  | some (.map kt et) => (match ekOf P kt, zeroAV P et with | some kk, some z => m2 (ta G m) (ta G k) (.mapEntry kk z) | _, _ => none)
  | _ => none
end
section
variable {P : Program} {G : Nat} {hole : Nat → Prop} {σ : Sig} {s s' : St} {w : World} {v : AV} {fr : Tr AV} {a : Act} {call : CallT} {D : Dom} {kt : TypeId} {kk : EK}
theorem zeroAV_ok {t : TypeId} {z : AV} (h : zeroAV P t = some z) : ∃ u, (∀ w, (zeroValue t).run P w = .ok u w) ∧ ∀ σ D, VR σ D z u := by
  unfold zeroAV at h
  split at h <;> try (cases h; done)
  rename_i i hi
  split at h <;> try (cases h; done)
  rename_i u hu
  exact ⟨u, fun w => run_zero hi hu, fun σ D => cv_ok σ D 3 u z h⟩
theorem checkKey_ok {k : AV} {x : Value} (hk : ekOf P kt = some kk) (hok : keyOk kk k = true) (hx : VR σ D k x) (em : Bool) (n : Nat) : (Instr.checkKey em (n + 1 + 1) kt x).run P w = .ok () w := by
  have sc : ∀ (d : TypeDesc) (q : SK) (t : TypeId) (n : Nat) (y : Value), P.underlying t = some d → skOf d = some q → (Instr.checkKey em (n + 1) t y).run P w = .ok () w := by
    intro d q t n y hd hq
    unfold Instr.checkKey
    simp only [Sem.run_bind, run_und hd, Result.andThen_ok]
    cases d <;> simp [skOf] at hq <;> rfl
  rcases ek_sorts hok with ⟨q, rfl⟩ | ⟨ks, rfl⟩
  · obtain ⟨d, hd, hq⟩ := sc_desc hk
    exact sc d q kt (n + 1) x hd hq
  · obtain ⟨fs, hd, hq⟩ := agg_desc hk
    have hag : ∃ l, k = .agg l ∧ keyOk.scOk ks l = true := by
      cases k <;> first | exact ⟨_, rfl, hok⟩ | (cases hok)
    obtain ⟨l, rfl, hsc⟩ := hag
    have hxx := hx
    simp only [VR] at hxx
    obtain ⟨cs, rfl, hcs⟩ := hxx
    obtain ⟨e1, e2⟩ := fk_each hq
    have hlen : cs.size = fs.size := by
      have h1 := VRs_len hcs
      have h2 := scOk_len hsc
      simp at h1 e1; omega
    unfold Instr.checkKey
    simp only [Sem.run_bind, run_und hd, Result.andThen_ok]
    rw [← Array.forIn_toList]
    refine (congrArg (fun r => Result.andThen r _) (run_forIn_unit _ fs.toList ?_)).trans ?_
    · intro f hf
      obtain ⟨d, q, g1, g2, g3⟩ := e2 f hf
      simp at g3
      have hget : cs[f.offset]? = some cs[f.offset] := Array.getElem?_eq_getElem (by omega)
      by_cases hn : f.name ≠ "_"
      · simp only [if_pos hn, Sem.run_bind, run_part g1 (skOf_notAgg g2) hget, Result.andThen_ok, sc d q f.type n _ g1 g2, Sem.run_pure]
      · simp only [if_neg hn, Sem.run_bind, Result.andThen_ok, Sem.run_pure]
    · rfl
end
end Ax
namespace Ax
open Go
section
variable {P : Program} {G : Nat} {hole : Nat → Prop} {σ : Sig} {s s' : St} {w : World} {v : AV} {fr : Tr AV} {a : Act} {call : CallT} {D : Dom} {kt : TypeId} {kk : EK}
theorem new_obj (hr : Rep G hole σ s w) {o : AObj} {obj : Obj} {v₀ : AV} (h : snew s o v₀ = some (v, s')) {w' : World}
    (hheap : w'.heap = w.heap.push obj) (hos : w'.os = w.os) (htp : w'.tape = w.tape) (hout : w'.output = w.output)
    (ho : OR (σ.at s.next w.heap.size 0 0) ⟨s.next + 1, hole⟩ s.next w' o) :
    v = v₀ ∧ s'.wlog = s.wlog ∧ s'.next = s.next + 1 ∧ Post G hole σ s w [] (σ.at s.next w.heap.size 0 0) s' w' := by
  cases s with
  | mk hh n wl =>
  simp only [snew] at h
  split at h
  · rename_i hb
    simp only [Option.some.injEq, Prod.mk.injEq] at h
    obtain ⟨rfl, rfl⟩ := h
    exact ⟨rfl, rfl, rfl, Post.new' hr (ble_iff.1 hb) hheap hos htp hout ho⟩
  · cases h
theorem S_makeMap (hr : Rep G hole σ s w) {t : TypeId} {r : Option Operand} {k : IK} (h : trMakeMap P t r = some k) (hk : stepK k call fr s = some (v, s')) (hh : ¬ hole s.next) :
    Does G hole σ s w v s' ((do pure (.value (← Instr.makeMap t (r.map a.eval))) : Sem Next).run P w) := by
  have hkk : k = .makeMap := by
    unfold trMakeMap at h
    split at h
    · cases h; rfl
    · split at h <;> cases h; rfl
    · cases h
  subst hkk
  have hrun : (Instr.makeMap t (r.map a.eval)).run P w = .ok (.map (some w.heap.size)) (w.alloc (.map #[] 0)) := by
    unfold trMakeMap at h
    split at h
    · rfl
    · split at h <;> try (cases h; done)
      rename_i hu
      simp only [Instr.makeMap, Option.map_some, Sem.run_bind, run_und hu, Result.andThen_ok, Act.eval, asInt, asIntOf, Sem.run_pure]
      rfl
    · cases h
  have hk' : snew s (.amap [] 0) (.map s.next) = some (v, s') := hk
  obtain ⟨rfl, h2, h3, h4⟩ := new_obj (w' := w.alloc (.map #[] 0)) hr hk' rfl rfl rfl rfl ⟨#[], by rw [Sig.at_self]; exact Array.getElem?_push_size, by simp [ER]⟩
  refine ⟨.map (some w.heap.size), _, _, [], .inl (by rw [Sem.run_bind, hrun]; rfl), ?_, by simpa using h2, h4⟩
  rw [h3]
  simp only [VR]
  exact ⟨⟨Nat.lt_succ_self _, hh⟩, by rw [Sig.at_self]⟩
theorem run_lookup {t et : TypeId} {x key zu : Value} {ok : Bool} {es : Array MapEntry} {res : Option (Nat × Value)} (hx : (x = .map none ∧ es = #[]) ∨ ∃ r c, x = .map (some r) ∧ w.heap[r]? = some (.map es c)) (hu : P.underlying t = some (.map kt et))
    (hck : ∀ em, (Instr.checkKey em 10000 kt key).run P w = .ok () w) (hfk : (Instr.findKey kt key es.toList).run P w = .ok res w) (hz : ∀ w, (zeroValue et).run P w = .ok zu w) :
    (Instr.lookup t x key ok).run P w = .ok (match res with | some (_, v) => (if ok then .tuple #[v, .bool true] else v) | none => (if ok then .tuple #[zu, .bool false] else zu)) w := by
  rcases hx with ⟨rfl, rfl⟩ | ⟨r, c, rfl, hb⟩
  · simp only [Instr.lookup, Sem.run_bind, run_und hu, Result.andThen_ok, Sem.run_pure, hck, hfk]
    cases res with
    | none => simp only [Sem.run_bind, hz, Result.andThen_ok, Sem.run_pure]
    | some p => obtain ⟨j, v⟩ := p; simp only [Sem.run_bind, Sem.run_pure, Result.andThen_ok]
  · simp only [Instr.lookup, Sem.run_bind, run_und hu, Result.andThen_ok, Sem.run_pure, run_getMap hb, hck, hfk]
    cases res with
    | none => simp only [Sem.run_bind, hz, Result.andThen_ok, Sem.run_pure]
    | some p => obtain ⟨j, v⟩ := p; simp only [Sem.run_bind, Sem.run_pure, Result.andThen_ok]
theorem entries_ok (hr : Rep G hole σ s w) {m : AV} {x : Value} {es : List (AV × AV × Nat)} (h : entriesOf s m = some es) (hx : VR σ D m x) :
    ∃ ces : Array MapEntry, ER σ ⟨s.next, hole⟩ es ces.toList ∧ ((x = .map none ∧ ces = #[]) ∨ ∃ r c, x = .map (some r) ∧ w.heap[r]? = some (.map ces c)) := by
  unfold entriesOf at h
  split at h <;> try (cases h; done)
  · cases h
    simp only [VR] at hx
    exact ⟨#[], by simp [ER], .inl ⟨hx, rfl⟩⟩
  · split at h <;> try (cases h; done)
    rename_i es' c hb
    cases h
    simp only [VR] at hx
    obtain ⟨ces, h1, h2⟩ := map_rep hr hb
    exact ⟨ces, h2, .inr ⟨_, _, hx.2, h1⟩⟩
theorem S_lookup (hr : Rep G hole σ s w) (hg : ∀ g, g < G → ¬ hole g) (hf : FR σ ⟨s.next, hole⟩ fr a.tmps) {t : TypeId} {x y : Operand} {ok : Bool} {k : IK} (h : trLookup P G t x y ok = some k) (hk : stepK k call fr s = some (v, s')) :
    Does G hole σ s w v s' ((do pure (.value (← Instr.lookup t (a.eval x) (a.eval y) ok)) : Sem Next).run P w) := by
  unfold trLookup at h
  split at h <;> try (cases h; done)
  rename_i kt et hu
  split at h <;> try (cases h; done)
  rename_i kk z hek hz
  obtain ⟨i, j, hi, hj, rfl⟩ := m2_ok h
  have hvi := ta_ok hr hg hf hi
  have hvj := ta_ok hr hg hf hj
  obtain ⟨zu, hzr, hzv⟩ := zeroAV_ok hz
  have hk' : doLookup s kk z ok (ev fr i) (ev fr j) = some (v, s') := hk
  unfold doLookup at hk'
  split at hk' <;> try (cases hk'; done)
  rename_i es hes
  obtain ⟨ces, her, hx⟩ := entries_ok hr hes hvi
  have hb : ∀ D b, VR σ D (.bool b) (.bool b) := fun D b => by simp only [VR]
  split at hk' <;> try (cases hk'; done)
  · rename_i u n hok hfind
    obtain ⟨p, h1, h2, h3⟩ := findE_pos hfind
    have hfk := findKey_ok (w := w) hek hok hvj h1 her
    have hrun := run_lookup (ok := ok) hx hu (fun em => checkKey_ok hek hok hvj em 9998) hfk hzr
    cases p with
    | none => have := h2 rfl; cases this
    | some j =>
      obtain ⟨b, v', n', g1, g2, g3⟩ := h3 j rfl
      cases g2
      obtain ⟨e, q1, q2, q3, q4⟩ := ER_get her g1
      simp only [Option.some.injEq, Prod.mk.injEq] at hk'
      obtain ⟨rfl, rfl⟩ := hk'
      refine Does.pure hr (by rw [Sem.run_bind, hrun]; rfl) ?_
      have q1' : ces[j]? = some e := by simpa using q1
      simp only [Option.map_some, Array.getElem?_toList, q1', Option.getD_some]
      cases ok with
      | true => simp only [if_true, VR]; exact ⟨_, rfl, VRs_cons'.2 ⟨q3, VRs_cons'.2 ⟨hb _ _, VRs_nil.2 rfl⟩⟩⟩
      | false => simpa using q3
  · rename_i hok hfind
    obtain ⟨p, h1, h2, h3⟩ := findE_pos hfind
    have hfk := findKey_ok (w := w) hek hok hvj h1 her
    have hrun := run_lookup (ok := ok) hx hu (fun em => checkKey_ok hek hok hvj em 9998) hfk hzr
    cases p with
    | some j => obtain ⟨b, v', n', g1, g2, g3⟩ := h3 j rfl; cases g2
    | none =>
      simp only [Option.some.injEq, Prod.mk.injEq] at hk'
      obtain ⟨rfl, rfl⟩ := hk'
      refine Does.pure hr (by rw [Sem.run_bind, hrun]; rfl) ?_
      simp only [Option.map_none]
      cases ok with
      | true => simp only [if_true, VR]; exact ⟨_, rfl, VRs_cons'.2 ⟨hzv _ _, VRs_cons'.2 ⟨hb _ _, VRs_nil.2 rfl⟩⟩⟩
      | false => simpa using hzv _ _
theorem run_mapUpdate {t et : TypeId} {key val : Value} {es : Array MapEntry} {c r : Nat} {res : Option (Nat × Value)} (hb : w.heap[r]? = some (.map es c)) (hu : P.underlying t = some (.map kt et))
    (hck : (Instr.checkKey false 10000 kt key).run P w = .ok () w) (hfk : (Instr.findKey kt key es.toList).run P w = .ok res w) (hsb : ∀ j v, res = some (j, v) → Instr.sameBits 10000 (((es[j]?).map (·.key)).getD key) key = true) :
    (Instr.mapUpdate t (.map (some r)) key val).run P w = .ok () { w with heap := w.heap.setIfInBounds r (match res with | some (i, _) => .map (es.modify i fun e => { e with key, val }) c | none => .map (es.push { key, val, born := c }) (c + 1)) } := by
  simp only [Instr.mapUpdate, Sem.run_bind, run_und hu, Result.andThen_ok, run_getMap hb, hck, hfk]
  cases res with
  | none => simp only [run_setMap _ hb]
  | some p =>
    obtain ⟨j, v⟩ := p
    simp only [Sem.run_bind, Instr.keyThatStays, hsb j v rfl, if_true, Sem.run_pure, Result.andThen_ok, run_setMap _ hb]
theorem run_mapEntry {t et : TypeId} {key zu : Value} {es : Array MapEntry} {c r : Nat} {res : Option (Nat × Value)} (hb : w.heap[r]? = some (.map es c)) (hu : P.underlying t = some (.map kt et))
    (hck : (Instr.checkKey false 10000 kt key).run P w = .ok () w) (hfk : (Instr.findKey kt key es.toList).run P w = .ok res w) (hsb : ∀ j v, res = some (j, v) → Instr.sameBits 10000 (((es[j]?).map (·.key)).getD key) key = true) (hz : ∀ w, (zeroValue et).run P w = .ok zu w) :
    (Instr.mapEntry t (.map (some r)) key).run P w = (match res with
      | some (i, v) => .ok (.tuple #[v, goInt (((es[i]?).map (·.born)).getD 0 : Nat)]) { w with heap := w.heap.setIfInBounds r (.map (es.modify i fun e => { e with key }) c) }
      | none => .ok (.tuple #[zu, goInt c]) { w with heap := w.heap.setIfInBounds r (.map (es.push { key, val := zu, born := c }) (c + 1)) }) := by
  simp only [Instr.mapEntry, Sem.run_bind, run_und hu, Result.andThen_ok, run_getMap hb, hck, hfk]
  cases res with
  | none => simp only [Sem.run_bind, hz, Result.andThen_ok, run_setMap _ hb, Sem.run_pure]
  | some p =>
    obtain ⟨j, v⟩ := p
    simp only [Sem.run_bind, Instr.keyThatStays, hsb j v rfl, if_true, Sem.run_pure, Result.andThen_ok, run_setMap _ hb]
    cases es[j]? <;> rfl
theorem S_mapUpdate (hr : Rep G hole σ s w) (hg : ∀ g, g < G → ¬ hole g) (hf : FR σ ⟨s.next, hole⟩ fr a.tmps) {t : TypeId} {m y x : Operand} {k : IK} (h : trMapUpdate P G t m y x = some k) (hk : stepK k call fr s = some (v, s')) :
    Does G hole σ s w v s' ((do Instr.mapUpdate t (a.eval m) (a.eval y) (a.eval x); pure .skip : Sem Next).run P w) := by
  unfold trMapUpdate at h
  split at h <;> try (cases h; done)
  rename_i kt et hu
  split at h <;> try (cases h; done)
  rename_i kk hek
  obtain ⟨i, j, l, hi, hj, hl, rfl⟩ := m3_ok h
  have hvi := ta_ok hr hg hf hi
  have hvj := ta_ok hr hg hf hj
  have hvl := ta_ok hr hg hf hl
  have hk' : doMapUpdate s kk (ev fr i) (ev fr j) (ev fr l) = some (v, s') := hk
  unfold doMapUpdate at hk'
  split at hk' <;> try (cases hk'; done)
  rename_i b heq
  rw [heq] at hvi
  split at hk' <;> try (cases hk'; done)
  rename_i es c hb
  split at hk' <;> try (cases hk'; done)
  rename_i es' c' hok hupd
  simp only [VR] at hvi
  obtain ⟨ces, g1, g2⟩ := map_rep hr hb
  obtain ⟨p, h1, h2, h3⟩ := updE_pos hupd
  have hfk := findKey_ok (w := w) hek hok hvj h1 g2
  have hsb : ∀ j' v', (p.map fun j => (j, ((ces.toList[j]?).getD default).val)) = some (j', v') → Instr.sameBits 10000 (((ces[j']?).map (·.key)).getD (a.eval y)) (a.eval y) = true := by
    intro j' v' hp
    cases p with
    | none => cases hp
    | some q =>
      obtain ⟨b', u, n, q1, q2, q3, q4⟩ := h3 q rfl
      cases hp
      obtain ⟨e, r1, r2, r3, r4⟩ := ER_get g2 q1
      have r1' := (Array.getElem?_toList ..).symm.trans r1
      rw [r1']
      exact keq_bits q4 hvj r2
  have hrun := run_mapUpdate (val := a.eval x) g1 hu (checkKey_ok hek hok hvj false 9998) hfk hsb
  cases s with
  | mk hh nx wl =>
  simp only [sputO, Option.some.injEq, Prod.mk.injEq] at hk'
  obtain ⟨rfl, rfl⟩ := hk'
  cases p with
  | none =>
    obtain ⟨rfl, rfl⟩ := h2 rfl
    refine ⟨undef, _, σ, [(b, 0, 1)], .inr ⟨by rw [hvi.2, Sem.run_bind, hrun]; rfl, rfl⟩, by simp [VR, unit, undef, VRs], rfl, ?_⟩
    refine put_map hr hb g1 ?_
    rw [Array.toList_push]
    exact ER_append g2 ⟨_, [], rfl, hvj, hvl, rfl, rfl⟩
  | some q =>
    obtain ⟨b', u, n, q1, rfl, rfl, q4⟩ := h3 q rfl
    refine ⟨undef, _, σ, [(b, 0, 1)], .inr ⟨by rw [hvi.2, Sem.run_bind, hrun]; rfl, rfl⟩, by simp [VR, unit, undef, VRs], rfl, ?_⟩
    refine put_map hr hb g1 ?_
    rw [Array.toList_modify]
    refine ER_set q g2 (fun e he => ⟨hvj, hvl, ?_⟩)
    obtain ⟨e', r1, r2, r3, r4⟩ := ER_get g2 q1
    rw [he] at r1; cases r1; exact r4
theorem S_mapEntry (hr : Rep G hole σ s w) (hg : ∀ g, g < G → ¬ hole g) (hf : FR σ ⟨s.next, hole⟩ fr a.tmps) {t : TypeId} {m y : Operand} {k : IK} (h : trMapEntry P G t m y = some k) (hk : stepK k call fr s = some (v, s')) :
    Does G hole σ s w v s' ((do pure (.value (← Instr.mapEntry t (a.eval m) (a.eval y))) : Sem Next).run P w) := by
  unfold trMapEntry at h
  split at h <;> try (cases h; done)
  rename_i kt et hu
  split at h <;> try (cases h; done)
  rename_i kk z hek hz
  obtain ⟨i, j, hi, hj, rfl⟩ := m2_ok h
  have hvi := ta_ok hr hg hf hi
  have hvj := ta_ok hr hg hf hj
  obtain ⟨zu, hzr, hzv⟩ := zeroAV_ok hz
  have hk' : doMapEntry s kk z (ev fr i) (ev fr j) = some (v, s') := hk
  unfold doMapEntry at hk'
  split at hk' <;> try (cases hk'; done)
  rename_i b heq
  rw [heq] at hvi
  split at hk' <;> try (cases hk'; done)
  rename_i es c hb
  simp only [VR] at hvi
  obtain ⟨ces, g1, g2⟩ := map_rep hr hb
  have hint : ∀ D (n : Nat), VR σ D (.int .i64 (.ofNat n)) (goInt n) := fun D n => by simp only [VR]; rfl
  split at hk' <;> try (cases hk'; done)
  · rename_i hok hfind
    obtain ⟨p, h1, h2, h3⟩ := findE_pos hfind
    have hfk := findKey_ok (w := w) hek hok hvj h1 g2
    cases p with
    | some q => obtain ⟨_, _, _, _, q2, _⟩ := h3 q rfl; cases q2
    | none =>
      have hrun := run_mapEntry (zu := zu) g1 hu (checkKey_ok hek hok hvj false 9998) hfk (fun j v hj => by cases hj) hzr
      cases s with
      | mk hh nx wl =>
      simp only [sputO, Option.some.injEq, Prod.mk.injEq] at hk'
      obtain ⟨rfl, rfl⟩ := hk'
      refine ⟨.tuple #[zu, goInt c], _, σ, [(b, 0, 1)], .inl (by rw [hvi.2, Sem.run_bind, hrun]; rfl), ?_, rfl, ?_⟩
      · simp only [VR]; exact ⟨_, rfl, VRs_cons'.2 ⟨hzv _ _, VRs_cons'.2 ⟨hint _ _, VRs_nil.2 rfl⟩⟩⟩
      · refine put_map hr hb g1 ?_
        rw [Array.toList_push]
        exact ER_append g2 ⟨_, [], rfl, hvj, hzv _ _, rfl, rfl⟩
  · rename_i u n hok hfind
    split at hk' <;> try (cases hk'; done)
    rename_i es' c' hupd
    obtain ⟨p, h1, h2, h3⟩ := findE_pos hfind
    obtain ⟨p', h1', h2', h3'⟩ := updE_pos hupd
    rw [h1] at h1'; cases h1'
    have hfk := findKey_ok (w := w) hek hok hvj h1 g2
    cases p with
    | none => have := h2 rfl; cases this
    | some q =>
      obtain ⟨b', u', n', q1, q2, q3⟩ := h3 q rfl
      cases q2
      obtain ⟨e, r1, r2, r3, r4⟩ := ER_get g2 q1
      have r1' : ces[q]? = some e := by simpa using r1
      have hrun := run_mapEntry (zu := zu) g1 hu (checkKey_ok hek hok hvj false 9998) hfk (fun j v hj => by
        cases hj; rw [r1']; exact keq_bits q3 hvj r2) hzr
      obtain ⟨b2, u2, n2, s1, rfl, rfl, s4⟩ := h3' q rfl
      rw [q1] at s1; cases s1
      cases s with
      | mk hh nx wl =>
      simp only [sputO, Option.some.injEq, Prod.mk.injEq] at hk'
      obtain ⟨rfl, rfl⟩ := hk'
      simp only [Option.map_some, Array.getElem?_toList, r1', Option.getD_some] at hrun
      refine ⟨.tuple #[e.val, goInt e.born], _, σ, [(b, 0, 1)], .inl (by rw [hvi.2, Sem.run_bind, hrun]; rfl), ?_, rfl, ?_⟩
      · simp only [VR]; exact ⟨_, rfl, VRs_cons'.2 ⟨r3, VRs_cons'.2 ⟨by rw [r4]; exact hint _ _, VRs_nil.2 rfl⟩⟩⟩
      · refine put_map hr hb g1 ?_
        rw [Array.toList_modify]
        refine ER_set q g2 (fun e' he => ?_)
        rw [r1] at he; cases he
        exact ⟨hvj, r3, r4⟩
end
end Ax
namespace Ax
open Go
section
variable (P : Program) (G : Nat)
def trRange (t : TypeId) (x : Operand) : Option IK := match P.underlying t with | some .string => m1 (ta G x) .rangeStr | _ => none
def trNext (x : Operand) (isString : Bool) : Option IK := match isString with | true => m1 (ta G x) .nextStr | false => none
end
section
variable {P : Program} {G : Nat} {hole : Nat → Prop} {σ : Sig} {s s' : St} {w : World} {v : AV} {fr : Tr AV} {a : Act} {call : CallT} {D : Dom}
theorem updN_ok {n : Nat} {v : AV} : ∀ {l l' : List (AV × AV × Nat)} {es : List MapEntry}, updN n v l = some l' → ER σ D l es → ∃ (j : Nat) (a u : AV), es.findIdx? (fun e => (e.born : Int) == (n : Int)) = some j ∧ l[j]? = some (a, u, n) ∧ l' = l.set j (a, v, n)
  | [], l', es, h, _ => by simp [updN] at h
  | (a, u, m) :: l, l', es, h, he => by
    obtain ⟨e, es', rfl, h1, h2, h3, h4⟩ := he
    simp only [updN] at h
    split at h
    · rename_i hb
      have := beq_iff.1 hb
      subst this
      cases h
      exact ⟨0, a, u, by simp [List.findIdx?_cons, h3], rfl, rfl⟩
    · rename_i hb
      have hne := beq_false_iff.1 hb
      split at h <;> try (cases h; done)
      rename_i r hr
      cases h
      obtain ⟨j, a', u', g1, g2, g3⟩ := updN_ok hr h4
      subst g3
      refine ⟨j + 1, a', u', ?_, by simpa using g2, rfl⟩
      have : ((e.born : Int) == (n : Int)) = false := by rw [h3]; simp; omega
      simp [List.findIdx?_cons, this, g1]
theorem S_entryStore (hr : Rep G hole σ s w) (hg : ∀ g, g < G → ¬ hole g) (hf : FR σ ⟨s.next, hole⟩ fr a.tmps) {t : TypeId} {m st x : Operand} {k : IK} (h : m3 (ta G m) (ta G st) (ta G x) .entryStore = some k) (hk : stepK k call fr s = some (v, s')) :
    Does G hole σ s w v s' ((do Instr.entryStore t (a.eval m) (a.eval st) (a.eval x); pure .skip : Sem Next).run P w) := by
  obtain ⟨i, j, l, hi, hj, hl, rfl⟩ := m3_ok h
  have hvi := ta_ok hr hg hf hi
  have hvj := ta_ok hr hg hf hj
  have hvl := ta_ok hr hg hf hl
  have hk' : doEntryStore s (ev fr i) (ev fr j) (ev fr l) = some (v, s') := hk
  unfold doEntryStore at hk'
  split at hk' <;> try (cases hk'; done)
  rename_i b heq
  rw [heq] at hvi
  split at hk' <;> try (cases hk'; done)
  rename_i k1 n heq2
  rw [heq2] at hvj
  split at hk' <;> try (cases hk'; done)
  rename_i es c hb
  split at hk' <;> try (cases hk'; done)
  rename_i es' hupd
  simp only [VR] at hvi
  have hst := VR_int.1 hvj
  obtain ⟨ces, g1, g2⟩ := map_rep hr hb
  obtain ⟨q, k0, u0, h1, h2, rfl⟩ := updN_ok hupd g2
  have hfi : ces.findIdx? (fun e => (e.born : Int) == (n : Int)) = some q := by
    have := List.findIdx?_toArray (fun e : MapEntry => (e.born : Int) == (n : Int)) ces.toList
    rw [Array.toArray_toList] at this
    rw [this]; exact h1
  obtain ⟨e, r1, r2, r3, r4⟩ := ER_get g2 h2
  cases s with
  | mk hh nx wl =>
  simp only [sputO, Option.some.injEq, Prod.mk.injEq] at hk'
  obtain ⟨rfl, rfl⟩ := hk'
  refine ⟨undef, { w with heap := w.heap.setIfInBounds (σ b).1 (.map (ces.modify q fun e => { e with val := a.eval x }) c) }, σ, [(b, 0, 1)], .inr ⟨?_, rfl⟩, by simp [VR, unit, undef, VRs], rfl, ?_⟩
  · rw [hvi.2, hst]
    have : (Instr.entryStore t (.map (some (σ b).1)) (.int k1 (Int.ofNat n)) (a.eval x)).run P w = .ok () { w with heap := w.heap.setIfInBounds (σ b).1 (.map (ces.modify q fun e => { e with val := a.eval x }) c) } := by
      simp only [Instr.entryStore, Sem.run_bind, run_getMap g1, Result.andThen_ok, asInt, asIntOf, Sem.run_pure]
      rw [show (Int.ofNat n) = (n : Int) from rfl, hfi]
      simp only [run_setMap _ g1]
    rw [Sem.run_bind, this]; rfl
  · refine put_map hr hb g1 ?_
    rw [Array.toList_modify]
    refine ER_set q g2 (fun e' he => ?_)
    rw [r1] at he; cases he
    exact ⟨r2, hvl, r4⟩
theorem S_range (hr : Rep G hole σ s w) (hg : ∀ g, g < G → ¬ hole g) (hf : FR σ ⟨s.next, hole⟩ fr a.tmps) {t : TypeId} {x : Operand} {k : IK} (h : trRange P G t x = some k) (hk : stepK k call fr s = some (v, s')) (hh : ¬ hole s.next) :
    Does G hole σ s w v s' ((do pure (.value (← Instr.range t (a.eval x))) : Sem Next).run P w) := by
  unfold trRange at h
  split at h <;> try (cases h; done)
  rename_i hu
  obtain ⟨i, hi, rfl⟩ := m1_ok h
  have hvi := ta_ok hr hg hf hi
  have hk' : doRangeStr s (ev fr i) = some (v, s') := hk
  unfold doRangeStr at hk'
  split at hk' <;> try (cases hk'; done)
  rename_i l heq
  rw [heq] at hvi
  simp only [VR] at hvi
  obtain ⟨str, hx, hl⟩ := hvi
  have hrun : (Instr.range t (a.eval x)).run P w = .ok (.pointer (some ⟨w.heap.size, 0, none⟩)) (w.alloc (.stringIter str 0)) := by
    rw [hx]
    simp only [Instr.range, Sem.run_bind, run_und hu, Result.andThen_ok, Sem.run_pure]
    rfl
  obtain ⟨rfl, h2, h3, h4⟩ := new_obj (w' := w.alloc (.stringIter str 0)) hr hk' rfl rfl rfl rfl ⟨by rw [Sig.at_self], str, by rw [Sig.at_self]; exact Array.getElem?_push_size, hl⟩
  refine ⟨_, _, _, [], .inl (by rw [Sem.run_bind, hrun]; rfl), ?_, by simpa using h2, h4⟩
  rw [h3]
  exact at_ok hh 0
theorem run_getIter {r p : Nat} {t : ByteArray} (hb : w.heap[r]? = some (.stringIter t p)) : (getObj r).run P w = .ok (.stringIter t p) w := by
  simp [getObj, Sem.run, hb]
theorem run_setIter {r p : Nat} {t : ByteArray} (o : Obj) (hb : w.heap[r]? = some (.stringIter t p)) : (setObj r o).run P w = .ok () { w with heap := w.heap.setIfInBounds r o } := by
  simp [setObj, Sem.run, hb]
theorem S_next (hr : Rep G hole σ s w) (hg : ∀ g, g < G → ¬ hole g) (hf : FR σ ⟨s.next, hole⟩ fr a.tmps) {ty : TypeId} {x : Operand} {b : Bool} {k : IK} (h : trNext G x b = some k) (hk : stepK k call fr s = some (v, s')) :
    Does G hole σ s w v s' ((do pure (.value (← Instr.next (a.eval x) b ty)) : Sem Next).run P w) := by
  unfold trNext at h
  split at h <;> try (cases h; done)
  obtain ⟨i, hi, rfl⟩ := m1_ok h
  have hvi := ta_ok hr hg hf hi
  have hk' : doNextStr s (ev fr i) = some (v, s') := hk
  unfold doNextStr at hk'
  split at hk' <;> try (cases hk'; done)
  rename_i b o heq
  rw [heq] at hvi
  split at hk' <;> try (cases hk'; done)
  rename_i ho
  have := beq_iff.1 ho
  subst this
  simp only [VR] at hvi
  split at hk' <;> try (cases hk'; done)
  rename_i l p hb
  obtain ⟨h0, str, h1, h2⟩ := (hr.objs b _ hb).2
  have hx : a.eval x = .pointer (some ⟨(σ b).1, 0, none⟩) := by rw [hvi.2, Sig.addr, h0]
  have hbool : ∀ D q, VR σ D (.bool q) (.bool q) := fun D q => by simp only [VR]
  split at hk'
  · rename_i c hc
    split at hk' <;> try (cases hk'; done)
    rename_i h128
    have hlt := ble_false_iff.1 h128
    rw [lgetN_eq, ← h2] at hc
    have hp : p < str.size := by
      have := (List.getElem?_eq_some_iff.1 hc).1
      simpa using this
    have hbyte : (str.get! p).toNat = c := by
      rw [List.getElem?_map] at hc
      have hget : str.data.toList[p]? = some (str.get! p) := by
        have hp' : p < str.data.size := hp
        show _ = some (str.data[p]!)
        rw [getElem!_pos str.data p hp']
        simp
      rw [hget] at hc
      simpa using hc
    have hdec : Utf8.decode str p = (c, 1) := by
      unfold Utf8.decode
      simp only [Nat.add_zero, hbyte]
      rw [if_pos (by omega)]
    have hrun : (Instr.next (a.eval x) true ty).run P w = .ok (.tuple #[.bool true, goInt p, .int .i32 c]) { w with heap := w.heap.setIfInBounds (σ b).1 (.stringIter str (p + 1)) } := by
      rw [hx]
      simp only [Instr.next, Sem.run_bind, run_getIter h1, Result.andThen_ok, if_pos hp, hdec, run_setIter _ h1, Sem.run_pure]
    cases s with
    | mk hh nx wl =>
    simp only [sputO, Option.some.injEq, Prod.mk.injEq] at hk'
    obtain ⟨rfl, rfl⟩ := hk'
    refine ⟨.tuple #[.bool true, goInt p, .int .i32 c], _, σ, [(b, 0, 1)], .inl (by rw [Sem.run_bind, hrun]; rfl), ?_, rfl, ?_⟩
    · simp only [VR]
      exact ⟨_, rfl, VRs_cons'.2 ⟨hbool _ _, VRs_cons'.2 ⟨VR_int.2 rfl, VRs_cons'.2 ⟨VR_int.2 rfl, VRs_nil.2 rfl⟩⟩⟩⟩
    · have hB : (σ b).1 < w.heap.size := (Array.getElem?_eq_some_iff.1 h1).1
      have hself : (w.heap.setIfInBounds (σ b).1 (.stringIter str (p + 1)))[(σ b).1]? = some (.stringIter str (p + 1)) := by simp [hB]
      refine Post.put' hr hb rfl rfl rfl (by simp) ?_ ?_ ?_
      · intro k hk
        dsimp only
        rw [Array.getElem?_setIfInBounds, if_neg (Ne.symm hk)]
      · intro off _
        simp only [World.cell?, hself, h1]
      · intro o ho'
        cases ho'
        exact ⟨h0, str, hself, h2⟩
  · rename_i hc
    cases hk'
    rw [lgetN_eq, ← h2] at hc
    have hp : ¬ p < str.size := by
      intro hp
      have : p < (str.data.toList.map UInt8.toNat).length := by simpa using hp
      rw [List.getElem?_eq_getElem this] at hc
      cases hc
    refine Does.pure hr (u := .tuple #[.bool false]) ?_ ?_
    · rw [hx]
      simp only [Instr.next, Sem.run_bind, run_getIter h1, Result.andThen_ok, if_neg hp, Sem.run_pure]
    · simp only [VR]; exact ⟨_, rfl, VRs_cons'.2 ⟨hbool _ _, VRs_nil.2 rfl⟩⟩
end
end Ax
namespace Ax
open Go
section
variable (P : Program) (G : Nat)
def notIface (t : TypeId) : Bool := match P.underlying t with | some (.interface _) => false | some _ => true | none => false
def mkFn (o : Option (List IArg)) (f : Nat → List IArg → IK) (n : Nat) : Option IK := match o with | some l => some (f n l) | none => none
def mkFv (o : Option (List IArg)) (x : Option IArg) (f : IArg → List IArg → IK) : Option IK := match o, x with | some l, some i => some (f i l) | _, _ => none
def trOp (op : Op) : Option IK :=
  match op with
  | .move x => m1 (ta G x) .move
  | .assign x => m1 (ta G x) .move
  | .pick c a b => m3 (ta G c) (ta G a) (ta G b) .pick
  | .alloc e => trAlloc P e
  | .box e x => m1 (ta G x) (.box e)
  | .build t parts => trBuild P G t parts.toList
  | .buildSlice t len parts => trBuildSlice P G t len parts.toList
  | .load t x => trLoad P G t x
  | .store t x y => trStore P G t x y
  | .nilCheck x => m1 (ta G x) .nilCheck
  | .binOp op t x y _ => trBin P G op t x y
  | .unOp op _ x => m1 (ta G x) (.un op)
  | .convert src dst x => trConvert P G src dst x
  | .makeInterface t x => (match notIface P t with | true => m1 (ta G x) (.makeIface t) | false => none)
  | .makeFunc (.func f) first caps => (match Nat.beq first.size 0 with | true => mkFn (tas G caps.toList) .makeFunc f | false => none)
  | .makeMap t r => trMakeMap P t r
  | .makeSlice t l c => trMakeSlice P G t l c
  | .slice t x lo hi mx => trSlice P G t x lo hi mx
  | .fieldAddr t x f => trFieldAddr P G t x f
  | .field t x f => trField P G t x f
  | .indexAddr t x i => trIdxAddr P G t x i
  | .index t x i => trIdx P G t x i
  | .lookup t x i ok => trLookup P G t x i ok
  | .mapUpdate t m k x => trMapUpdate P G t m k x
  | .insert t m k x => trMapUpdate P G t m k x
  | .mapEntry t m k => trMapEntry P G t m k
  | .entryStore _ m k x => m3 (ta G m) (ta G k) (ta G x) .entryStore
  | .range t x => trRange P G t x
  | .next x b => trNext G x b
  | .extract x i => m1 (ta G x) (fun j => .extract j i)
  | .call ⟨.builtin b, args, ts⟩ => trBuiltin P G b ts args.toList
  | .call ⟨.value (.func f), args, _⟩ => mkFn (tas G args.toList) .callF f
  | .call ⟨.value x, args, _⟩ => mkFv (tas G args.toList) (ta G x) .callV
  | _ => none
end
def isCall : Op → Bool | .call ⟨.value _, _, _⟩ => true | _ => false
section
variable {P : Program} {G : Nat} {hole : Nat → Prop} {σ : Sig} {s s' : St} {w : World} {v : AV} {fr : Tr AV} {a : Act} {call : CallT}
theorem S_op (hr : Rep G hole σ s w) (hg : ∀ g, g < G → ¬ hole g) (hf : FR σ ⟨s.next, hole⟩ fr a.tmps) {o : Oper} {k : IK} (h : trOp P G o.op = some k) (hc : isCall o.op = false) (hk : stepK k call fr s = some (v, s')) (hh : ¬ hole s.next) :
    Does G hole σ s w v s' ((execOp a.eval o).run P w) := by
  obtain ⟨dst, op, type, pos, after, guard⟩ := o
  dsimp only at h hc
  unfold trOp at h
  split at h
  · exact S_move hr hg hf h hk
  · exact S_move hr hg hf h hk
  · exact S_pick hr hg hf h hk
  · exact S_alloc hr hg hf h hk hh
  · exact S_box hr hg hf h hk hh
  · exact S_build hr hg hf h hk
  · exact S_buildSlice hr hg hf h hk hh
  · exact S_load hr hg hf h hk
  · exact S_store hr hg hf h hk
  · exact S_nilCheck hr hg hf h hk _ rfl
  · exact S_bin hr hg hf h hk
  · exact S_un hr hg hf h hk
  · exact S_convert hr hg hf h hk hh
  · split at h <;> try (cases h; done)
    rename_i hn
    unfold notIface at hn
    split at hn <;> try (cases hn; done)
    rename_i d hd hne
    exact S_makeIface hr hg hf hne (fun m hm => by subst hm; exact hd m rfl) h hk
  · rename_i f first caps
    split at h <;> try (cases h; done)
    rename_i hz
    have hz0 : first = #[] := Array.eq_empty_of_size_eq_zero (beq_iff.1 hz)
    subst hz0
    unfold mkFn at h
    split at h <;> try (cases h; done)
    rename_i l hl
    cases h
    exact S_makeFunc hr hg hf hl rfl hk
  · exact S_makeMap hr h hk hh
  · exact S_makeSlice hr hg hf h hk hh
  · exact S_slice hr hg hf h hk
  · exact S_fieldAddr hr hg hf h hk
  · exact S_field hr hg hf h hk
  · exact S_idxAddr hr hg hf h hk
  · exact S_idx hr hg hf h hk
  · exact S_lookup hr hg hf h hk
  · exact S_mapUpdate hr hg hf h hk
  · exact S_mapUpdate hr hg hf h hk
  · exact S_mapEntry hr hg hf h hk
  · exact S_entryStore hr hg hf h hk
  · exact S_range hr hg hf h hk hh
  · exact S_next hr hg hf h hk
  · exact S_extract hr hg hf h hk
  · rename_i b args ts
    obtain ⟨cs, hcs⟩ := exec_builtin (P := P) (w := w) (a := a) (o := { dst, op := .call { callee := .builtin b, args := args, argTypes := ts }, type, pos, after, guard }) rfl
    rw [hcs]
    exact S_builtin hr hg hf h hk hh
  · cases hc
  · cases hc
  · cases h
end
end Ax
namespace Ax
open Go
def oargs : Option IArg → List IArg | none => [] | some a => [a]
def pargsOf : List (Nat × Nat × IArg) → List IArg | [] => [] | (_, _, a) :: l => a :: pargsOf l
def argsOf : IK → List IArg
  | .move a => [a] | .pick c a b => [c, a, b]
  | .alloc _ _ => [] | .box _ a => [a]
  | .build _ parts => pargsOf parts | .buildSlice _ _ _ parts => pargsOf parts
  | .load a => [a] | .loadN _ a => [a] | .store a v => [a, v] | .storeN _ a v => [a, v]
  | .nilCheck a => [a]
  | .bin _ a b => [a, b] | .eq _ _ _ a b => [a, b] | .un _ a => [a]
  | .convInt _ a => [a] | .strBytes _ a => [a] | .bytesStr a => [a]
  | .toUns a => [a] | .toPtr _ _ _ a => [a] | .makeIface _ a => [a] | .makeFunc _ cap => cap
  | .makeMap => [] | .makeSlice _ _ l c => [l, c]
  | .sliceStr a lo hi => a :: (oargs lo ++ oargs hi) | .sliceSl _ a lo hi mx => a :: (oargs lo ++ (oargs hi ++ oargs mx)) | .sliceArr _ _ a lo hi mx => a :: (oargs lo ++ (oargs hi ++ oargs mx))
  | .fieldAddr _ a => [a] | .field _ a => [a] | .fieldN _ _ a => [a]
  | .idxAddrSl _ a i => [a, i] | .idxAddrArr _ _ a i => [a, i]
  | .idxStr a i => [a, i] | .idxArr _ a i => [a, i]
  | .lookup _ _ _ m k => [m, k] | .mapUpdate _ m k v => [m, k, v] | .mapEntry _ _ m k => [m, k] | .entryStore m st v => [m, st, v]
  | .rangeStr a => [a] | .nextStr a => [a]
  | .extract a _ => [a]
  | .callF _ args => args | .callV f args => f :: args
  | .bLen _ a => [a] | .bCap a => [a] | .bAppend _ _ a b => [a, b] | .bCopy _ a b => [a, b] | .bClear a _ => [a]
  | .bMin a b => [a, b] | .bMax a b => [a, b] | .bUStr _ a b => [a, b] | .bUData a => [a]
  | .bad => []
theorem evs_congr {fr fr' : Tr AV} : ∀ {l : List IArg}, (∀ i ∈ l, ev fr i = ev fr' i) → evs fr l = evs fr' l
  | [], _ => rfl
  | a :: l, h => by simp only [evs, h a (List.mem_cons_self ..), evs_congr (l := l) fun i hi => h i (List.mem_cons_of_mem _ hi)]
theorem evo_congr {fr fr' : Tr AV} {o : Option IArg} (h : ∀ i ∈ oargs o, ev fr i = ev fr' i) : evo fr o = evo fr' o := by
  cases o with
  | none => rfl
  | some a => simp only [evo, h a (List.mem_cons_self ..)]
theorem fills_congr {fr fr' : Tr AV} : ∀ {l : List (Nat × Nat × IArg)} {z : List AV}, (∀ i ∈ pargsOf l, ev fr i = ev fr' i) → fills fr z l = fills fr' z l
  | [], z, _ => by simp only [fills]
  | (o, n, a) :: l, z, h => by
    simp only [fills, h a (List.mem_cons_self ..)]
    split
    · split
      · exact fills_congr fun i hi => h i (List.mem_cons_of_mem _ hi)
      · rfl
    · rfl
theorem stepK_congr {k : IK} {call : CallT} {fr fr' : Tr AV} {s : St} (h : ∀ i ∈ argsOf k, ev fr i = ev fr' i) : stepK k call fr s = stepK k call fr' s := by
  cases k <;> simp only [argsOf, List.mem_cons, List.mem_append, List.not_mem_nil, or_false, forall_eq_or_imp, forall_eq, or_imp, forall_and] at h
  case build z parts => show ret s (doBuild fr z parts) = ret s (doBuild fr' z parts); simp only [doBuild, fills_congr h]
  case buildSlice ty z len parts => show doBuildSlice s fr ty z len parts = doBuildSlice s fr' ty z len parts; simp only [doBuildSlice, fills_congr h]
  case makeFunc f cap => show some (AV.fn f (evs fr cap), s) = some (AV.fn f (evs fr' cap), s); rw [evs_congr h]
  case callF f args => show call f (evs fr args) s = call f (evs fr' args) s; rw [evs_congr h]
  case callV f args => show doCallV call s (ev fr f) (evs fr args) = doCallV call s (ev fr' f) (evs fr' args); rw [h.1, evs_congr h.2]
  case sliceStr a lo hi => show ret s (doSliceStr (ev fr a) (evo fr lo) (evo fr hi)) = ret s (doSliceStr (ev fr' a) (evo fr' lo) (evo fr' hi)); rw [h.1, evo_congr h.2.1, evo_congr h.2.2]
  case sliceSl size a lo hi mx => show ret s (doSliceSl size (ev fr a) (evo fr lo) (evo fr hi) (evo fr mx)) = ret s (doSliceSl size (ev fr' a) (evo fr' lo) (evo fr' hi) (evo fr' mx)); rw [h.1, evo_congr h.2.1, evo_congr h.2.2.1, evo_congr h.2.2.2]
  case sliceArr n size a lo hi mx => show ret s (doSliceArr n size (ev fr a) (evo fr lo) (evo fr hi) (evo fr mx)) = ret s (doSliceArr n size (ev fr' a) (evo fr' lo) (evo fr' hi) (evo fr' mx)); rw [h.1, evo_congr h.2.1, evo_congr h.2.2.1, evo_congr h.2.2.2]
  all_goals first | rfl | (simp only [stepK, h]; done) | (simp only [stepK, h.1, h.2]; done)
/-- the state is left alone -/
def isLight : IK → Bool
  | .move _ | .pick _ _ _ | .build _ _ | .load _ | .loadN _ _ | .nilCheck _ | .bin _ _ _ | .eq _ _ _ _ _ | .un _ _ | .convInt _ _ | .bytesStr _ | .toUns _ | .toPtr _ _ _ _ | .makeIface _ _ | .makeFunc _ _
  | .sliceStr _ _ _ | .sliceSl _ _ _ _ _ | .sliceArr _ _ _ _ _ _ | .fieldAddr _ _ | .field _ _ | .fieldN _ _ _ | .idxAddrSl _ _ _ | .idxAddrArr _ _ _ _ | .idxStr _ _ | .idxArr _ _ _ | .lookup _ _ _ _ _ | .extract _ _
  | .bLen _ _ | .bCap _ | .bMin _ _ | .bMax _ _ | .bUData _ => true
  | _ => false
/-- nor is it looked at -/
def isPure : IK → Bool
  | .move _ | .pick _ _ _ | .build _ _ | .nilCheck _ | .bin _ _ _ | .eq _ _ _ _ _ | .un _ _ | .convInt _ _ | .makeIface _ _ | .makeFunc _ _
  | .sliceStr _ _ _ | .sliceSl _ _ _ _ _ | .sliceArr _ _ _ _ _ _ | .fieldAddr _ _ | .field _ _ | .fieldN _ _ _ | .idxAddrSl _ _ _ | .idxAddrArr _ _ _ _ | .idxStr _ _ | .idxArr _ _ _ | .extract _ _
  | .bLen 0 _ | .bLen 1 _ | .bCap _ | .bMin _ _ | .bMax _ _ | .bUData _ => true
  | _ => false
theorem ret_st {s s' : St} {o : Option AV} {v : AV} (h : ret s o = some (v, s')) : s' = s := (ret_ok h).2
theorem ret_any {s s' s2 : St} {o : Option AV} {v : AV} (h : ret s o = some (v, s')) : ret s2 o = some (v, s2) := by
  rw [(ret_ok h).1]; rfl
theorem light_st {k : IK} {call : CallT} {fr : Tr AV} {s s' : St} {v : AV} (hl : isLight k = true) (h : stepK k call fr s = some (v, s')) : s' = s := by
  cases k <;> first | (cases hl; done) | exact ret_st h | (cases h; rfl) | skip
  case load a =>
    have h' : doLoad s (ev fr a) = some (v, s') := h
    unfold doLoad at h'
    repeat' split at h'
    all_goals first | (cases h'; rfl) | cases h'
  case loadN n a =>
    have h' : doLoadN s n (ev fr a) = some (v, s') := h
    unfold doLoadN at h'
    repeat' split at h'
    all_goals first | (cases h'; rfl) | cases h'
  case nilCheck a =>
    have h' : doNilCheck s (ev fr a) = some (v, s') := h
    unfold doNilCheck at h'
    repeat' split at h'
    all_goals first | (cases h'; rfl) | cases h'
  case bytesStr a =>
    have h' : doBytesStr s (ev fr a) = some (v, s') := h
    unfold doBytesStr at h'
    repeat' split at h'
    all_goals first | (cases h'; rfl) | cases h'
  case toUns a =>
    have h' : doToUns s (ev fr a) = some (v, s') := h
    unfold doToUns at h'
    repeat' split at h'
    all_goals first | (cases h'; rfl) | cases h'
  case toPtr t n also a =>
    have h' : doToPtr s t n also (ev fr a) = some (v, s') := h
    unfold doToPtr at h'
    repeat' split at h'
    all_goals first | (cases h'; rfl) | cases h'
  case lookup kk z ok m x =>
    have h' : doLookup s kk z ok (ev fr m) (ev fr x) = some (v, s') := h
    unfold doLookup at h'
    repeat' split at h'
    all_goals first | (cases h'; rfl) | cases h'
  case bLen n a =>
    have h' : doLen s n (ev fr a) = some (v, s') := h
    unfold doLen at h'
    repeat' split at h'
    all_goals first | (cases h'; rfl) | cases h'
theorem pure_any {k : IK} {call : CallT} {fr : Tr AV} {s s' s2 : St} {v : AV} (hl : isPure k = true) (h : stepK k call fr s = some (v, s')) : stepK k call fr s2 = some (v, s2) := by
  cases k <;> first | (cases hl; done) | exact ret_any h | (cases h; rfl) | skip
  case nilCheck a =>
    have h' : doNilCheck s (ev fr a) = some (v, s') := h
    show doNilCheck s2 (ev fr a) = some (v, s2)
    unfold doNilCheck at *
    repeat' split at h'
    all_goals first | (cases h'; done) | (cases h'; first | rfl | (split <;> first | rfl | simp_all))
  case bLen n a =>
    match n, hl with
    | 0, _ =>
      have h' : doLen s 0 (ev fr a) = some (v, s') := h
      show doLen s2 0 (ev fr a) = some (v, s2)
      simp only [doLen] at *
      repeat' split at h'
      all_goals first | (cases h'; done) | (cases h'; rfl)
    | 1, _ =>
      have h' : doLen s 1 (ev fr a) = some (v, s') := h
      show doLen s2 1 (ev fr a) = some (v, s2)
      simp only [doLen] at *
      repeat' split at h'
      all_goals first | (cases h'; done) | (cases h'; rfl)
end Ax
