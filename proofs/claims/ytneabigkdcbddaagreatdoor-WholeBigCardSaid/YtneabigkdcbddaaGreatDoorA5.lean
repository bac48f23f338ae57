/- The built-in functions. · append. · append, for the walk. · The other built-in functions. · copy, clear, unsafe.String; all the built-in functions. · unsafe.String; all the built-in functions. · All the built-in functions. -/
import Derived.Test.YtneabigkdcbddaaGreatDoorA4
import Derived.Laws.Append
import Derived.Laws.AppendOwn
import Derived.MapKept
set_option linter.unusedVariables false
set_option linter.unusedSimpArgs false
set_option linter.unusedSectionVars false
set_option linter.unnecessarySimpa false
namespace Ax
open Go
section
variable (P : Program) (G : Nat)
def trAppend (t : TypeId) (t2 : Option TypeId) (x y : Operand) : Option IK :=
  match P.underlying t, t2 with
  | some (.slice e), some t2 => (match P.info? e, P.underlying t2 with
    | some i, some d => (match Nat.ble i.bytes 1024, Nat.beq i.bytes 0, Nat.beq i.size 0, (match d with | .int _ => true | _ => false), i.zero with
      | true, false, false, false, some z => (match Nat.beq z.cells.size i.size with | true => m2 (ta G x) (ta G y) (.bAppend e i.size) | false => none)
      | _, _, _, _, _ => none)
    | _, _ => none)
  | _, _ => none
def trBuiltin (b : Builtin) (ts : Array TypeId) (args : List Operand) : Option IK :=
  match b with
  | .len => (match args, ts[0]? with
    | [x], some t => (match P.underlying t with
      | some .string => m1 (ta G x) (.bLen 0)
      | some (.slice _) => m1 (ta G x) (.bLen 1)
      | some (.map _ _) => m1 (ta G x) (.bLen 2)
      | _ => none)
    | _, _ => none)
  | .cap => (match args, ts[0]? with
    | [x], some t => (match P.underlying t with | some (.slice _) => m1 (ta G x) .bCap | _ => none)
    | _, _ => none)
  | .append => (match args, ts[0]? with
    | [x, y], some t => trAppend P G t ts[1]? x y
    | _, _ => none)
  | .copy => (match args, ts[0]? with
    | [x, y], some t => (match P.underlying t with
      | some (.slice e) => (match sizeO P e with | some n => m2 (ta G x) (ta G y) (.bCopy n) | none => none)
      | _ => none)
    | _, _ => none)
  | .clear => (match args, ts[0]? with
    | [x], some t => (match P.underlying t with
      | some (.slice e) => (match zeroOf P e, sizeO P e with
        | some z, some n => (match Nat.beq (llen z) n, Nat.beq n 0 with | true, false => m1 (ta G x) (fun i => .bClear i z) | _, _ => none)
        | _, _ => none)
      | some (.map _ _) => m1 (ta G x) (fun i => .bClear i [.agg []])
      | _ => none)
    | _, _ => none)
  | .min => (match args with | [x, y] => m2 (ta G x) (ta G y) .bMin | _ => none)
  | .max => (match args with | [x, y] => m2 (ta G x) (ta G y) .bMax | _ => none)
  | .unsafeString => (match args, ts[0]? with
    | [x, y], some t => (match P.underlying t with
      | some (.pointer e) => (match sizeO P e with | some n => (match Nat.beq n 1 with | true => m2 (ta G x) (ta G y) (.bUStr e) | false => none) | none => none)
      | _ => none)
    | _, _ => none)
  | .unsafeSliceData => (match args with | [x] => m1 (ta G x) .bUData | _ => none)
  | _ => none
end
section
variable {P : Program} {G : Nat} {hole : Nat → Prop} {σ : Sig} {s s' : St} {w : World} {v : AV} {fr : Tr AV} {a : Act} {call : CallT} {D : Dom}
theorem slc_form {b o len : Nat} {c : Cap} {u : Value} (h : VR σ D (.slc b o len c) u) : ∃ cap, u = .slice (some (σ.addr b o)) len cap ∧ D.ok b ∧ (match c with | .ex c => cap = c | .ge c sz => c ≤ cap ∧ (σ b).2.1 + o + cap * sz ≤ (σ b).2.2) := by
  cases c with
  | ex c => simp only [VR] at h; exact ⟨c, h.2, h.1, rfl⟩
  | ge c sz => simp only [VR] at h; obtain ⟨h1, c', h2, h3, h4⟩ := h; exact ⟨c', h4, h1, h2, h3⟩
/-- the source of an append, a copy -/
theorem src_ok (hr : Rep G hole σ s w) {size m : Nat} {x : AV} {u : Value} {new : List AV} {n : Nat} (h1 : sliceCells s size x = some new) (h2 : lenOf x = some n) (hx : VR σ ⟨s.next, hole⟩ x u) (hm : m ≤ n) :
    new.length = n * size ∧ (Builtin.lenOf u).run P w = .ok n w ∧ ∃ cells : Array Value, (Builtin.firstCells size m u).run P w = .ok cells w ∧ VRs σ ⟨s.next, hole⟩ (new.take (m * size)) cells.toList := by
  unfold sliceCells at h1
  split at h1
  · rename_i b o len c
    simp only [lenOf, Option.some.injEq] at h2
    subst h2
    split at h1
    · rename_i l hl
      obtain ⟨cap, rfl, hok, _⟩ := slc_form hx
      obtain ⟨hnew, hlen⟩ := lcut_ok h1
      have hcut : lcut l o (Nat.mul len size) = some new := h1
      obtain ⟨cs, hc1, hc2, hc3⟩ := cut_ok hr hl hcut
      refine ⟨hlen, by simp [Builtin.lenOf], (cs.take (m * size)).toArray, ?_, by simpa using VRs_take (m * size) hc2⟩
      have hle : m * size ≤ cs.length := by rw [hc1]; exact Nat.mul_le_mul_right _ hm
      have := run_loadCells_list (P := P) w (σ.addr b o) (cs.take (m * size)) (fun j y hy => hc3 j y (by
        rw [List.getElem?_take] at hy
        split at hy
        · exact hy
        · cases hy))
      rw [List.length_take, Nat.min_eq_left hle] at this
      simp only [Builtin.firstCells, this]
    · cases h1
  · cases h1
    simp only [lenOf, Option.some.injEq] at h2
    subst h2
    simp only [VR] at hx; subst hx
    exact ⟨by simp, by simp [Builtin.lenOf], #[], by simp [Builtin.firstCells], by simp [VRs]⟩
  · cases h1
    simp only [lenOf, Option.some.injEq] at h2
    subst h2
    simp only [VR] at hx; obtain ⟨a, c, rfl⟩ := hx
    have hm0 : m = 0 := by omega
    subst hm0
    refine ⟨by simp, by simp [Builtin.lenOf], #[], ?_, by simp [VRs]⟩
    cases a with
    | none => simp [Builtin.firstCells]
    | some a =>
      have := run_loadCells_list (P := P) w a [] (fun j y hy => by simp at hy)
      simpa [Builtin.firstCells] using this
  · rename_i l
    split at h1
    · rename_i hs
      cases h1
      have := beq_iff.1 hs; subst this
      simp only [lenOf, Option.some.injEq] at h2
      simp only [VR] at hx
      obtain ⟨t, rfl, rfl⟩ := hx
      rw [llen_eq, str_len] at h2
      subst h2
      refine ⟨by rw [strCells_eq]; simp, by simp [Builtin.lenOf], strVals (t.extract 0 m), by simp [Builtin.firstCells, strVals], ?_⟩
      rw [Nat.mul_one]
      have e : (strCells (t.data.toList.map UInt8.toNat)).take m = strCells ((t.extract 0 m).data.toList.map UInt8.toNat) := by
        rw [strCells_eq, strCells_eq, ByteArray.data_extract, Array.toList_extract, List.extract_eq_take_drop]
        simp [List.map_take]
      rw [e]; exact VRs_str _
    · cases h1
  · cases h1
theorem exec_builtin {o : Oper} {b : Builtin} {args : Array Operand} {ts : Array TypeId} (ho : o.op = .call { callee := .builtin b, args := args, argTypes := ts }) :
    ∃ consts, (execOp a.eval o).run P w = (builtin b ts o.type consts (args.map a.eval)).run P w := by
  constructor
  unfold execOp
  simp only [ho, resolve, Sem.run_bind, Sem.run_pure, Result.andThen_ok, invoke]
  rfl
/-- a row is written: what an append in place, a copy, a clear do -/
theorem put_ok (hr : Rep G hole σ s w) {b o nn : Nat} {ty : TypeId} {l c l' : List AV} {v₀ : AV} {cells : List Value} (hb : hget s.heap b = some (.cells ty l)) (hl : lsets l o c = some l') (hall : allCell c = true)
    (hv : VRs σ ⟨s.next, hole⟩ c cells) (hn : nn = 0 ∨ c.length ≤ nn) (h : sputO s b o nn (.cells ty l') v₀ = some (v, s')) :
    v = v₀ ∧ s'.next = s.next ∧ ∃ w' log, (storeCells (σ.addr b o) cells 0).run P w = .ok () w' ∧ s'.wlog = log ++ s.wlog ∧ Post G hole σ s w log σ s' w' := by
  obtain ⟨hle, rfl⟩ := lsets_ok hl
  obtain ⟨w', r1, r2⟩ := write_post (P := P) (nn := nn) hr hb hle hv (allCell_ok hall hv) hn
  cases s with
  | mk hh n wl =>
  simp only [sputO, Option.some.injEq, Prod.mk.injEq] at h
  obtain ⟨rfl, rfl⟩ := h
  exact ⟨rfl, rfl, w', [(b, o, nn)], r1, rfl, r2⟩
theorem addr_add (b o n : Nat) : (σ.addr b o).add n = σ.addr b (o + n) := by simp only [Sig.addr, add_eq, Nat.add_assoc]
end
end Ax
namespace Ax
open Go
section
variable {G : Nat} {hole : Nat → Prop}
/-- A BLOCK THAT A NEW NUMBER TAKES OVER. -/
theorem Post.move' {σ : Sig} {h : Tr AObj} {n b : Nat} {wl : List (Nat × Nat × Nat)} {w w' : World} {o o₀ : AObj} {size : Nat}
    (hr : Rep G hole σ ⟨h, n, wl⟩ w) (hn : n ≤ most) (hb : hget h b = some o₀)
    (hos : w'.os = w.os) (htp : w'.tape = w.tape) (hout : w'.output = w.output) (hsz : w'.heap.size = w.heap.size)
    (hother : ∀ k, k ≠ (σ b).1 → w'.heap[k]? = w.heap[k]?)
    (ho : OR (σ.at n (σ b).1 0 size) ⟨n + 1, hole⟩ n w' o) :
    Post G hole σ ⟨h, n, wl⟩ w [(b, 0, 0)] (σ.at n (σ b).1 0 size) ⟨hset (some o) bits64 (hset none bits64 h b) n, n + 1, (b, 0, 0) :: wl⟩ w' := by
  have hbn := (hr.objs b o₀ hb).1
  dsimp only at hbn
  have hlt : n + 1 < 2 ^ bits64 := small_pow hn
  have hltb : b + 1 < 2 ^ bits64 := small_pow (by omega)
  have hget' : ∀ b', hget (hset (some o) bits64 (hset none bits64 h b) n) b' = if b' = n then some o else if b' = b then none else hget h b' := fun b' => by
    rw [hget_hset _ _ _ _ _ hlt, hget_hset _ _ _ _ _ hltb]
  have hlive : ∀ b' o', hget (hset (some o) bits64 (hset none bits64 h b) n) b' = some o' → b' ≠ n → b' ≠ b ∧ hget h b' = some o' := fun b' o' h1 h2 => by
    rw [hget', if_neg h2] at h1
    by_cases e : b' = b
    · rw [if_pos e] at h1; cases h1
    · rw [if_neg e] at h1; exact ⟨e, h1⟩
  refine ⟨fun b' hb' => Sig.at_ne _ _ _ _ (Nat.ne_of_lt hb'.1), fun b' hb' => ⟨Nat.lt_succ_of_lt hb'.1, hb'.2⟩, Nat.le_succ _, ⟨?_, Nat.le_succ_of_le hr.le, ?_, ?_, ?_, fun b' hb' => Nat.lt_succ_of_lt (hr.holes b' hb'), by dsimp only; omega, ?_⟩, ?_, ?_, ?_, ?_⟩
  · intro g hg
    have := hr.le
    rw [Sig.at_ne _ _ _ _ (show g ≠ n by dsimp only at this; omega)]; exact hr.glob g hg
  · intro b' o' h1
    dsimp only at h1
    by_cases e : b' = n
    · subst e; rw [hget', if_pos rfl] at h1; cases h1; exact ⟨Nat.lt_succ_self _, ho⟩
    · obtain ⟨e2, h2⟩ := hlive b' o' h1 e
      have := hr.objs b' o' h2
      exact ⟨Nat.lt_succ_of_lt this.1, OR.mono (Dom.up _ _ _) (Sig.at_ne _ _ _ _ e) (hother _ (hr.inj b' b o' o₀ h2 hb e2)) o' this.2⟩
  · intro b' o' h1
    dsimp only at h1
    by_cases e : b' = n
    · subst e; rw [Sig.at_self]
    · obtain ⟨e2, h2⟩ := hlive b' o' h1 e
      rw [Sig.at_ne _ _ _ _ e]; exact hr.base b' o' h2
  · intro b1 b2 o1 o2 h1 h2 hne
    dsimp only at h1 h2
    by_cases e1 : b1 = n
    · have e2 : b2 ≠ n := fun e => hne (e1.trans e.symm)
      obtain ⟨e3, h3⟩ := hlive b2 o2 h2 e2
      rw [e1, Sig.at_self, Sig.at_ne _ _ _ _ e2]
      exact hr.inj b b2 o₀ o2 hb h3 (Ne.symm e3)
    · obtain ⟨e3, h3⟩ := hlive b1 o1 h1 e1
      by_cases e2 : b2 = n
      · rw [e2, Sig.at_self, Sig.at_ne _ _ _ _ e1]
        exact hr.inj b1 b o1 o₀ h3 hb e3
      · obtain ⟨e4, h4⟩ := hlive b2 o2 h2 e2
        rw [Sig.at_ne _ _ _ _ e1, Sig.at_ne _ _ _ _ e2]
        exact hr.inj b1 b2 o1 o2 h3 h4 hne
  · intro b' o' h1
    dsimp only at h1
    by_cases e : b' = n
    · subst e; exact fun h => Nat.lt_irrefl _ (hr.holes _ h)
    · exact hr.okh b' o' (hlive b' o' h1 e).2
  · have hσ : (σ.at n (σ b).1 0 size) b = σ b := Sig.at_ne _ _ _ _ (Nat.ne_of_lt hbn)
    refine ⟨hos, htp, hout, by rw [hsz]; exact Nat.le_refl _, fun B hB hall => hother B fun e => hall _ (List.mem_singleton_self _) (hr.ok hb) (by rw [hσ]; exact e.symm), ?_⟩
    intro B off hB hall
    by_cases e : B = (σ b).1
    · subst e; exact absurd (show hits (σ.at n (σ b).1 0 size) (b, 0, 0) (σ b).1 off from ⟨by rw [hσ], .inl rfl⟩) (hall _ (List.mem_singleton_self _) (hr.ok hb))
    · exact World.cell?_of_block (w := w) (hother B e)
  · intro b' o' h1 h2
    dsimp only at h1 h2
    by_cases e : b' = n
    · subst e
      exact .inr ⟨_, List.mem_singleton_self _, hr.ok hb, rfl, by rw [Sig.at_self, Sig.at_ne _ _ _ _ (Nat.ne_of_lt hbn)]⟩
    · obtain ⟨e2, h3⟩ := hlive b' o' h2 e
      exact absurd (hr.ok h3) h1
  · intro b' o' h1 h2
    dsimp only at h1 h2
    obtain ⟨e2, h3⟩ := hlive b' o' h2 (Nat.ne_of_lt h1.1)
    exact ⟨o', h3⟩
  · intro e he _
    rw [List.mem_singleton] at he
    subst he; exact ⟨o₀, hb⟩
end
section
variable {P : Program} {w : World} {t t2 ty e : TypeId} {i : TypeInfo} {d : TypeDesc} {ats : Array TypeId} {n sLen sCap : Nat} {base : Option Addr} {x z : Value} {cells olds : Array Value}
def notInt : TypeDesc → Bool | .int _ => false | _ => true
theorem run_app_room (h0 : ats[0]? = some t) (h1 : ats[1]? = some t2) (ht : P.underlying t = some (.slice e)) (hi : P.info? e = some i) (h2 : P.underlying t2 = some d) (hd : notInt d = true)
    (hl : (Builtin.lenOf x).run P w = .ok n w) (hf : (Builtin.firstCells i.size n x).run P w = .ok cells w) (hroom : sLen + n ≤ sCap) :
    (Builtin.append_ ats ty #[.slice base sLen sCap, x]).run P w = ((match base with | some a => storeCells (a.add (sLen * i.size)) cells.toList | none => pure () : Sem Unit).run P w).andThen fun _ w' => .ok (.slice base (sLen + n) sCap) w' := by
  have e1 : (#[.slice base sLen sCap, x] : Array Value)[0]? = some (.slice base sLen sCap) := rfl
  have e2 : (#[.slice base sLen sCap, x] : Array Value)[1]? = some x := rfl
  simp only [Builtin.append_, h0, h1, e1, e2, Sem.run_bind, run_und ht, Result.andThen_ok, run_size hi, run_und h2, Sem.run_pure]
  rw [Sem.run_ite]
  split
  · cases hd
  · simp only [Bool.false_eq_true, if_false, Sem.run_bind, hl, Result.andThen_ok, Sem.run_ite, if_pos hroom, Bool.not_false, if_true, hf]
    cases base <;> simp
theorem run_app_grow (h0 : ats[0]? = some t) (h1 : ats[1]? = some t2) (ht : P.underlying t = some (.slice e)) (hi : P.info? e = some i) (hz : i.zero = some z) (h2 : P.underlying t2 = some d) (hd : notInt d = true)
    (hl : (Builtin.lenOf x).run P w = .ok n w) (hf : (Builtin.firstCells i.size n x).run P w.drew = .ok cells w.drew) (hlo : (Builtin.firstCells i.size sLen (.slice base sLen sCap)).run P w.drew = .ok olds w.drew)
    (hg : sCap < sLen + n) (hb : i.bytes ≠ 0) (hfit : Builtin.nextslicecap (sLen + n) sCap * i.bytes ≤ 281474976710656) :
    (Builtin.append_ ats ty #[.slice base sLen sCap, x]).run P w =
      .ok (.slice (some ⟨w.heap.size, 0, none⟩) (sLen + n) (grownCap w (sLen + n) sCap e)) (w.drew.alloc (.cells (olds ++ cells ++ Builtin.zeroCells z.cells (grownCap w (sLen + n) sCap e - (sLen + n))) e)) := by
  have hn : ¬ (sLen + n ≤ sCap) := by omega
  have h48' : ¬ (281474976710656 < Builtin.nextslicecap (sLen + n) sCap * i.bytes) := by omega
  have e1 : (#[.slice base sLen sCap, x] : Array Value)[0]? = some (.slice base sLen sCap) := rfl
  have e2 : (#[.slice base sLen sCap, x] : Array Value)[1]? = some x := rfl
  simp only [Builtin.append_, h0, h1, e1, e2, Sem.run_bind, run_und ht, Result.andThen_ok, run_size hi, run_und h2, Sem.run_pure]
  rw [Sem.run_ite]
  split
  · cases hd
  · simp only [Bool.false_eq_true, if_false, Sem.run_bind, hl, Result.andThen_ok, Sem.run_ite, if_neg hn, Bool.not_false, if_true, run_info hi, hb, or_self, and_false, h48', run_choose_drew, Question.forced, run_askRoom, hf, hlo, run_zero hi hz, run_newRow, Sem.run_pure]
    simp [hb, h48', hf, hlo, run_newRow, run_zero hi hz, grownCap]
end
end Ax
namespace Ax
open Go
section
variable {P : Program} {G : Nat} {hole : Nat → Prop} {σ : Sig} {s s' : St} {w : World} {v : AV} {fr : Tr AV} {a : Act} {call : CallT} {D : Dom}
theorem slc_cap {b o len n : Nat} {c : Cap} {cap : Nat} (h : VR σ D (.slc b o len c) (.slice (some (σ.addr b o)) len cap)) : VR σ D (.slc b o n c) (.slice (some (σ.addr b o)) n cap) := by
  cases c with
  | ex c => simp only [VR] at h ⊢; exact ⟨h.1, by injection h.2 with _ _ e3; rw [e3]⟩
  | ge c sz => simp only [VR] at h ⊢; obtain ⟨h1, c', h2, h3, h4⟩ := h; injection h4 with _ _ e3; subst e3; exact ⟨h1, _, h2, h3, rfl⟩
theorem fits_ok {len n cap bytes : Nat} (h1 : n ≤ big) (h2 : len ≤ big) (hb : bytes ≤ 1024) (hg : cap < len + n) : Builtin.nextslicecap (len + n) cap * bytes ≤ 281474976710656 := by
  refine growslice_fits hg ?_
  simp only [big] at h1 h2
  have : (len + n) * bytes ≤ 2147483648 * 1024 := Nat.mul_le_mul (by omega) hb
  omega
theorem builtin_does {b : Builtin} {m : Sem Value} {ts : Array TypeId} {ty : TypeId} {cs : Array Bool} {args : Array Value} {u : Value} {w' : World} {σ' : Sig} {log : List (Nat × Nat × Nat)} (h : builtin b ts ty cs args = (do pure (.value (← m)))) (hm : m.run P w = .ok u w')
    (h1 : VR σ' ⟨s'.next, hole⟩ v u) (h2 : s'.wlog = log ++ s.wlog) (h3 : Post G hole σ s w log σ' s' w') : Does G hole σ s w v s' ((builtin b ts ty cs args).run P w) :=
  ⟨u, w', σ', log, .inl (by rw [h, Sem.run_bind, hm]; rfl), h1, h2, h3⟩
theorem appendIn_ok (hr : Rep G hole σ s w) {ts : Array TypeId} {ty t t2 e : TypeId} {i : TypeInfo} {d : TypeDesc} {cs : Array Bool} {x : Value} {b o len n cap : Nat} {c : Cap} {ty' : TypeId} {l new : List AV} {cells : Array Value}
    (h0 : ts[0]? = some t) (h1 : ts[1]? = some t2) (ht : P.underlying t = some (.slice e)) (hi : P.info? e = some i) (h2 : P.underlying t2 = some d) (hd : notInt d = true)
    (hl : (Builtin.lenOf x).run P w = .ok n w) (hf : (Builtin.firstCells i.size n x).run P w = .ok cells w) (hcs : VRs σ ⟨s.next, hole⟩ new cells.toList) (hnew : new.length = n * i.size)
    (hroom : len + n ≤ cap) (hb : hget s.heap b = some (.cells ty' l)) (hs : VR σ ⟨s.next, hole⟩ (.slc b o len c) (.slice (some (σ.addr b o)) len cap))
    (h : appendIn s ty' i.size b o len (Nat.add len n) c l new n = some (v, s')) :
    Does G hole σ s w v s' ((builtin .append ts ty cs #[.slice (some (σ.addr b o)) len cap, x]).run P w) := by
  have hrun := run_app_room (P := P) (w := w) (ty := ty) (base := some (σ.addr b o)) (sLen := len) (sCap := cap) h0 h1 ht hi h2 hd hl hf hroom
  unfold appendIn at h
  split at h
  · rename_i hn
    cases h
    have hn0 := beq_iff.1 hn
    have hc0 : cells.toList = [] := by
      have := VRs_len hcs
      rw [hnew, hn0, Nat.zero_mul] at this
      exact List.eq_nil_of_length_eq_zero this
    rw [hc0] at hrun
    refine builtin_does rfl (by rw [hrun]; simp [storeCells]) (slc_cap hs) (by simp) (Post.refl hr)
  · split at h
    · rename_i l' hall hl'
      obtain ⟨rfl, h3, w', log, h4, h5, h6⟩ := put_ok (P := P) hr hb hl' hall hcs (.inr (by rw [hnew]; exact Nat.le_refl _)) h
      refine builtin_does rfl (by
        rw [hrun]; dsimp only
        rw [addr_add, ← Nat.mul_eq, ← Nat.add_eq, h4]; rfl) (by rw [h3]; exact slc_cap hs) h5 h6
    · cases h
/-- what is new after an append that has grown -/
theorem grown_ok (hr : Rep G hole σ s w) (hh : ¬ hole s.next) {ts : Array TypeId} {ty t t2 e : TypeId} {i : TypeInfo} {d : TypeDesc} {z : Value} {cs : Array Bool} {x : Value} {base : Option Addr} {len n cap : Nat} {old new : List AV} {olds cells : Array Value}
    (h0 : ts[0]? = some t) (h1 : ts[1]? = some t2) (ht : P.underlying t = some (.slice e)) (hi : P.info? e = some i) (hz : i.zero = some z) (hzs : z.cells.size = i.size) (h2 : P.underlying t2 = some d) (hd : notInt d = true)
    (hb : i.bytes ≤ 1024) (hb0 : i.bytes ≠ 0) (hn : n ≤ big) (hlen : len ≤ big)
    (hl : (Builtin.lenOf x).run P w = .ok n w) (hf : (Builtin.firstCells i.size n x).run P w.drew = .ok cells w.drew) (hcs : VRs σ ⟨s.next, hole⟩ new cells.toList) (hnew : new.length = n * i.size)
    (hlo : (Builtin.firstCells i.size len (.slice base len cap)).run P w.drew = .ok olds w.drew) (hos : VRs σ ⟨s.next, hole⟩ old olds.toList) (hold : old.length = len * i.size)
    (hg : cap < len + n) (h : snew s (.cells e (List.append old new)) (.slc s.next 0 (Nat.add len n) (.ge (Nat.add len n) i.size)) = some (v, s')) :
    Does G hole σ s w v s' ((builtin .append ts ty cs #[.slice base len cap, x]).run P w) := by
  have hrun := run_app_grow (P := P) (w := w) (ty := ty) (base := base) (sLen := len) (sCap := cap) h0 h1 ht hi hz h2 hd hl hf hlo hg hb0 (fits_ok hn hlen hb hg)
  have hge := grownCap_ge w (len + n) cap e
  have e1 := VRs_len hos
  have e2 := VRs_len hcs
  obtain ⟨rfl, h3, h4, h5⟩ := new_cells (pad := (Builtin.zeroCells z.cells (grownCap w (len + n) cap e - (len + n))).toList) (f₀ := 0) (f₁ := 0) hr h (VRs_append hos hcs) (w' := w.drew.alloc (.cells (olds ++ cells ++ Builtin.zeroCells z.cells (grownCap w (len + n) cap e - (len + n))) e)) (by
    show w.heap.push _ = _
    congr 2
    apply Array.ext'; simp) (by omega) rfl rfl rfl
  refine builtin_does (log := []) rfl hrun ?_ (by simpa using h3) h5
  rw [h4]
  refine slc_newG hh hge ?_
  simp only [List.length_append, e1, e2, hold, hnew, Array.length_toList, size_zeroCells, hzs]
  rw [← Nat.add_mul, ← Nat.add_mul]
  exact Nat.mul_le_mul_right _ (by omega)
theorem trAppend_ok {t : TypeId} {t2 : Option TypeId} {x y : Operand} {k : IK} (h : trAppend P G t t2 x y = some k) :
    ∃ e t2' i d z ix iy, t2 = some t2' ∧ P.underlying t = some (.slice e) ∧ P.info? e = some i ∧ P.underlying t2' = some d ∧ notInt d = true ∧ i.zero = some z ∧ z.cells.size = i.size ∧ i.bytes ≤ 1024 ∧ i.bytes ≠ 0 ∧ i.size ≠ 0 ∧ ta G x = some ix ∧ ta G y = some iy ∧ k = .bAppend e i.size ix iy := by
  unfold trAppend at h
  split at h
  · rename_i e t2' hu
    split at h
    · rename_i i d hi hd
      split at h
      · rename_i z hb hb0 hs0 hint hz
        split at h
        · rename_i hzs
          obtain ⟨ix, iy, h1, h2, rfl⟩ := m2_ok h
          refine ⟨e, t2', i, d, z, ix, iy, rfl, hu, hi, hd, ?_, hz, beq_iff.1 hzs, ble_iff.1 hb, beq_false_iff.1 hb0, beq_false_iff.1 hs0, h1, h2, rfl⟩
          cases d <;> first | rfl | (cases hint)
        · cases h
      · cases h
    · cases h
  · cases h
theorem S_append (hr : Rep G hole σ s w) (hg : ∀ g, g < G → ¬ hole g) (hf : FR σ ⟨s.next, hole⟩ fr a.tmps) {ts : Array TypeId} {ty t : TypeId} {cs : Array Bool} {x y : Operand} {k : IK} (h0 : ts[0]? = some t) (h : trAppend P G t ts[1]? x y = some k) (hk : stepK k call fr s = some (v, s')) (hh : ¬ hole s.next) :
    Does G hole σ s w v s' ((builtin .append ts ty cs #[a.eval x, a.eval y]).run P w) := by
  obtain ⟨e, t2, i, d, z, ix, iy, h1, ht, hi, h2, hd, hz, hzs, hb, hb0, hs0, hix, hiy, rfl⟩ := trAppend_ok h
  have hvx := ta_ok hr hg hf hix
  have hvy := ta_ok hr hg hf hiy
  have hk' : doAppend s e i.size (ev fr ix) (ev fr iy) = some (v, s') := hk
  unfold doAppend at hk'
  split at hk'
  · rename_i new n hsl hln
    split at hk'
    · cases hk'
    · rename_i hbig
      have hbig' := ble_iff.1 hbig
      obtain ⟨hnew, hl, cells, hfc, hcs⟩ := src_ok (P := P) hr hsl hln hvy (Nat.le_refl n)
      obtain ⟨_, hl', cells', hfc', hcs'⟩ := src_ok (P := P) (hr.world (w' := w.drew) rfl) hsl hln hvy (Nat.le_refl n)
      have htk : new.take (n * i.size) = new := List.take_of_length_le (by omega)
      rw [htk] at hcs hcs'
      split at hk'
      · rename_i heq
        rw [heq] at hvx
        simp only [VR] at hvx
        rw [hvx]
        split at hk'
        · rename_i hn
          have hn0 := beq_iff.1 hn
          subst hn0
          cases hk'
          have hrun := run_app_room (P := P) (w := w) (ty := ty) (base := none) (sLen := 0) (sCap := 0) h0 h1 ht hi h2 hd hl hfc (by omega)
          exact builtin_does rfl hrun (by simp only [VR]) (by simp) (Post.refl hr)
        · rename_i hn
          have hn0 : n ≠ 0 := beq_false_iff.1 hn
          refine grown_ok hr hh (len := 0) (old := []) (olds := #[]) h0 h1 ht hi hz hzs h2 hd hb hb0 hbig' (by decide) hl hfc' hcs' hnew ?_ (by simp [VRs]) (by simp) (by omega) ?_
          · simp [Builtin.firstCells]
          · rw [show Nat.add 0 n = n from Nat.zero_add n]; exact hk'
      · rename_i b o len cap heq
        rw [heq] at hvx
        split at hk'
        · cases hk'
        · rename_i hlb
          have hlb' := ble_iff.1 hlb
          obtain ⟨cp, hu, hok, hcap⟩ := slc_form hvx
          rw [hu] at hvx ⊢
          have hloGen : ∀ {l old : List AV} {o' : Nat}, hcells s b = some l → lcut l o' (Nat.mul len i.size) = some old → o' = o →
              ∃ olds : Array Value, (Builtin.firstCells i.size len (.slice (some (σ.addr b o)) len cp)).run P w.drew = .ok olds w.drew ∧ VRs σ ⟨s.next, hole⟩ old olds.toList ∧ old.length = len * i.size := by
            intro l old o' hl hc ho
            subst ho
            obtain ⟨cs', hlen', hcs', hcell⟩ := cut_ok (w := w.drew) (hr.world rfl) hl hc
            have := run_loadCells_list (P := P) w.drew (σ.addr b o') cs' hcell
            rw [hlen'] at this
            exact ⟨cs'.toArray, by simp only [Builtin.firstCells]; exact this, by simpa using hcs', (lcut_ok hc).2⟩
          split at hk'
          · rename_i ty' l hb'
            have hcl : hcells s b = some l := by simp only [hcells, hb']
            split at hk'
            · rename_i c
              dsimp only at hcap
              subst hcap
              split at hk'
              · rename_i hroom
                exact appendIn_ok hr h0 h1 ht hi h2 hd hl hfc hcs hnew (by have := ble_iff.1 hroom; exact this) hb' hvx hk'
              · rename_i hroom
                have hgt := ble_false_iff.1 hroom
                split at hk'
                · rename_i old hold
                  obtain ⟨olds, q1, q2, q3⟩ := hloGen hcl hold rfl
                  exact grown_ok hr hh h0 h1 ht hi hz hzs h2 hd hb hb0 hbig' hlb' hl hfc' hcs' hnew q1 q2 q3 hgt hk'
                · cases hk'
            · rename_i c sz
              dsimp only at hcap
              split at hk'
              · rename_i hroom
                exact appendIn_ok hr h0 h1 ht hi h2 hd hl hfc hcs hnew (by have := ble_iff.1 hroom; simp only [Nat.add_eq] at this; omega) hb' hvx hk'
              · split at hk'
                · rename_i hty
                  have := beq_iff.1 hty
                  subst this
                  split at hk'
                  · rename_i old hold hsz ho hall
                    have := beq_iff.1 hsz; subst this
                    have := beq_iff.1 ho; subst this
                    cases s with
                    | mk hh' nx wl =>
                    simp only [grow] at hk'
                    split at hk'
                    · rename_i hmost
                      have hmost' := ble_iff.1 hmost
                      simp only [Option.some.injEq, Prod.mk.injEq] at hk'
                      obtain ⟨rfl, rfl⟩ := hk'
                      obtain ⟨olds, q1, q2, q3⟩ := hloGen hcl hold rfl
                      have hnum : Nat.add len n = len + n := rfl
                      by_cases hfit : len + n ≤ cp
                      · -- in place
                        have hrun := run_app_room (P := P) (w := w) (ty := ty) (base := some (σ.addr b 0)) (sLen := len) (sCap := cp) h0 h1 ht hi h2 hd hl hfc hfit
                        obtain ⟨cc, f, a1, a2, a3, us, rest, a4, a5, a6⟩ := (hr.objs b _ hb').2
                        have hbase := hr.base b _ hb'
                        have e1 := VRs_len hcs
                        have hroomC : (σ b).2.1 + 0 + len * i.size + 0 + cells.toList.length ≤ cc.size := by
                          have g1 : (len + n) * i.size ≤ cp * i.size := Nat.mul_le_mul_right _ hfit
                          rw [Nat.add_mul] at g1
                          have g2 := hcap.2
                          rw [a2]; rw [e1, hnew]; omega
                        obtain ⟨w', c', r1, r2, r3, r4, r5, r6, r7, r8⟩ := run_storeCells (P := P) (B := (σ b).1) (off := (σ b).2.1 + 0 + len * i.size) cells.toList 0 w cc a1 a3 hroomC (allCell_ok hall hcs)
                        have hsz : c'.size = cc.size := by
                          have : c'.toList.length = cc.toList.length := by rw [r3]; simp; simp at hroomC; omega
                          simpa using this
                        rw [hbase] at r3 a4
                        simp only [Nat.zero_add, Nat.add_zero, List.drop_zero] at r3 a4
                        have hus : us.length = l.length := VRs_len a6
                        obtain ⟨hold1, hold2⟩ := lcut_ok hold
                        simp only [List.drop_zero, Nat.mul_eq] at hold1
                        have hll : len * i.size ≤ us.length := by
                          rw [hus]
                          have := q3; rw [hold1, List.length_take] at this; omega
                        refine builtin_does (log := [(b, 0, 0)]) (σ' := σ.at nx (σ b).1 0 cc.size) (w' := w') rfl (u := .slice (some (σ.addr b 0)) (len + n) cp) ?_ ?_ rfl ?_
                        · rw [hrun]; dsimp only
                          rw [Sig.addr, add_eq, r1]; rfl
                        · simp only [VR]
                          refine ⟨⟨Nat.lt_succ_self _, hh⟩, cp, hfit, ?_, ?_⟩
                          · rw [Sig.at_self]; have := hcap.2; rw [a2]; dsimp only; omega
                          · simp only [Sig.addr, Sig.at_self, hbase, hnum]
                        · refine Post.move' hr hmost' hb' r6 r7 r8 r5 r4 ⟨c', f, ?_, ?_, ?_, us.take (len * i.size) ++ cells.toList, c'.toList.drop ((us.take (len * i.size) ++ cells.toList).length), ?_, ?_, ?_⟩
                          · rw [Sig.at_self]; exact r2
                          · rw [Sig.at_self]; exact hsz
                          · rw [hsz]; exact a3
                          · rw [Sig.at_self]; dsimp only; rw [List.drop_zero]
                            have hpre : us.take (len * i.size) = cc.toList.take (len * i.size) := by rw [a4, List.take_append_of_le_length hll]
                            conv => lhs; rw [← List.take_append_drop ((us.take (len * i.size) ++ cells.toList).length) c'.toList]
                            congr 1
                            rw [r3, hpre, List.take_left]
                          · rw [Sig.at_self]; exact Nat.zero_le _
                          · refine VRs.mono (Dom.up _ _ _) _ _ ?_
                            rw [hold1]
                            exact VRs_append (VRs_take _ a6) hcs
                      · have hgt : cp < len + n := by omega
                        have p1 := Post.put' (x := none) (oo := 0) (nn := 0) hr hb' rfl rfl rfl rfl (fun _ _ => rfl) (fun _ _ => rfl) (fun o ho => by cases ho)
                        have hn2 : snew ⟨hset none bits64 hh' b, nx, (b, 0, 0) :: wl⟩ (.cells e (List.append old new)) (.slc nx 0 (Nat.add len n) (.ge (Nat.add len n) i.size)) = some (AV.slc nx 0 (Nat.add len n) (.ge (Nat.add len n) i.size), ⟨hset (some (.cells e (List.append old new))) bits64 (hset none bits64 hh' b) nx, Nat.add nx 1, (b, 0, 0) :: wl⟩) := by
                          simp only [snew, hmost]
                        obtain ⟨u, w', σ', log, g1, g2, g3, g4⟩ := grown_ok (P := P) (cs := cs) (ty := ty) p1.rep hh h0 h1 ht hi hz hzs h2 hd hb hb0 hbig' hlb' hl hfc' hcs' hnew q1 q2 q3 hgt hn2
                        refine ⟨u, w', σ', log ++ [(b, 0, 0)], g1, g2, ?_, p1.trans g4⟩
                        rw [g3]; simp
                    · cases hk'
                  · cases hk'
                · cases hk'
          · rename_i ty' l hb'
            have hcl : hcells s b = some l := by simp only [hcells, hb']
            split at hk'
            · rename_i c
              dsimp only at hcap
              subst hcap
              split at hk'
              · rename_i hroom
                split at hk'
                · rename_i hn
                  have hn0 := beq_iff.1 hn
                  subst hn0
                  cases hk'
                  have hc0 : cells.toList = [] := by
                    have := VRs_len hcs
                    rw [hnew, Nat.zero_mul] at this
                    exact List.eq_nil_of_length_eq_zero this
                  have hrun := run_app_room (P := P) (w := w) (ty := ty) (base := some (σ.addr b o)) (sLen := len) (sCap := cp) h0 h1 ht hi h2 hd hl hfc (by have := ble_iff.1 hroom; exact this)
                  rw [hc0] at hrun
                  exact builtin_does rfl (by rw [hrun]; simp [storeCells]) hvx (by simp) (Post.refl hr)
                · cases hk'
              · rename_i hroom
                have hgt := ble_false_iff.1 hroom
                split at hk'
                · rename_i old hold
                  obtain ⟨olds, q1, q2, q3⟩ := hloGen hcl hold rfl
                  exact grown_ok hr hh h0 h1 ht hi hz hzs h2 hd hb hb0 hbig' hlb' hl hfc' hcs' hnew q1 q2 q3 hgt hk'
                · cases hk'
            · cases hk'
          · cases hk'
      · cases hk'
  · cases hk'
end
end Ax
namespace Ax
open Go
section
variable {P : Program} {G : Nat} {hole : Nat → Prop} {σ : Sig} {s s' : St} {w : World} {v : AV} {fr : Tr AV} {a : Act} {call : CallT} {D : Dom} {ts : Array TypeId} {ty t : TypeId} {cs : Array Bool}
theorem ER_len : ∀ {l : List (AV × AV × Nat)} {es : List MapEntry}, ER σ D l es → es.length = l.length
  | [], es, h => by simp only [ER] at h; subst h; rfl
  | (k, v, n) :: l, es, h => by obtain ⟨e, es', rfl, _, _, _, h4⟩ := h; simp [ER_len h4]
theorem builtin_pure (hr : Rep G hole σ s w) {b : Builtin} {m : Sem Value} {args : Array Value} {u : Value} (h : builtin b ts ty cs args = (do pure (.value (← m)))) (hm : m.run P w = .ok u w)
    (h1 : VR σ ⟨s.next, hole⟩ v u) : Does G hole σ s w v s ((builtin b ts ty cs args).run P w) := builtin_does (log := []) h hm h1 (by simp) (Post.refl hr)
theorem run_getMap {r clock : Nat} {es : Array MapEntry} (hb : w.heap[r]? = some (.map es clock)) : (getObj r).run P w = .ok (.map es clock) w := by
  simp [getObj, Sem.run, hb]
theorem run_setMap {r clock : Nat} {es : Array MapEntry} (o : Obj) (hb : w.heap[r]? = some (.map es clock)) : (setObj r o).run P w = .ok () { w with heap := w.heap.setIfInBounds r o } := by
  simp [setObj, Sem.run, hb]
theorem map_rep (hr : Rep G hole σ s w) {b c : Nat} {es : List (AV × AV × Nat)} (h : hget s.heap b = some (.amap es c)) : ∃ ces : Array MapEntry, w.heap[(σ b).1]? = some (.map ces c) ∧ ER σ ⟨s.next, hole⟩ es ces.toList := (hr.objs b _ h).2
theorem S_len (hr : Rep G hole σ s w) (hg : ∀ g, g < G → ¬ hole g) (hf : FR σ ⟨s.next, hole⟩ fr a.tmps) {d : TypeDesc} {x : Operand} {k : IK} {kd : Nat} (h0 : ts[0]? = some t) (ht : P.underlying t = some d)
    (hd : (d = .string ∧ kd = 0) ∨ (∃ e, d = .slice e ∧ kd = 1) ∨ (∃ e f, d = .map e f ∧ kd = 2)) (h : m1 (ta G x) (.bLen kd) = some k) (hk : stepK k call fr s = some (v, s')) :
    Does G hole σ s w v s' ((builtin .len ts ty cs #[a.eval x]).run P w) := by
  obtain ⟨i, hi, rfl⟩ := m1_ok h
  have hv := ta_ok hr hg hf hi
  have hk' : doLen s kd (ev fr i) = some (v, s') := hk
  have e1 : (#[a.eval x] : Array Value)[0]? = some (a.eval x) := rfl
  rcases hd with ⟨rfl, rfl⟩ | ⟨e, rfl, rfl⟩ | ⟨e, f, rfl, rfl⟩
  · unfold doLen at hk'
    simp only at hk'
    split at hk' <;> try (cases hk'; done)
    rename_i l heq
    rw [heq] at hv
    cases hk'
    simp only [VR] at hv
    obtain ⟨b, hb, rfl⟩ := hv
    refine builtin_pure hr rfl (u := goInt b.size) ?_ ?_
    · simp [Builtin.len_, h0, run_und ht, hb]
    · rw [llen_eq, str_len, VR_int]; rfl
  · unfold doLen at hk'
    simp only at hk'
    split at hk' <;> try (cases hk'; done)
    · rename_i b o n c heq
      rw [heq] at hv
      cases hk'
      obtain ⟨cap, hu, _, _⟩ := slc_form hv
      refine builtin_pure hr rfl (u := goInt n) ?_ ?_
      · simp [Builtin.len_, h0, run_und ht, hu]
      · rw [VR_int]; rfl
    · rename_i heq
      rw [heq] at hv
      cases hk'
      simp only [VR] at hv
      refine builtin_pure hr rfl (u := goInt 0) ?_ ?_
      · simp [Builtin.len_, h0, run_und ht, hv]
      · rw [VR_int]; rfl
    · rename_i heq
      rw [heq] at hv
      cases hk'
      simp only [VR] at hv
      obtain ⟨_, _, hv⟩ := hv
      refine builtin_pure hr rfl (u := goInt 0) ?_ ?_
      · simp [Builtin.len_, h0, run_und ht, hv]
      · rw [VR_int]; rfl
  · unfold doLen at hk'
    simp only at hk'
    split at hk' <;> try (cases hk'; done)
    · rename_i b heq
      rw [heq] at hv
      split at hk' <;> try (cases hk'; done)
      rename_i es c hb
      cases hk'
      simp only [VR] at hv
      obtain ⟨ces, h1, h2⟩ := map_rep hr hb
      refine builtin_pure hr rfl (u := goInt ces.size) ?_ ?_
      · simp [Builtin.len_, h0, run_und ht, hv, run_getMap h1]
      · rw [VR_int, llen_eq]; have := ER_len h2; simp at this; rw [this]; rfl
    · rename_i heq
      rw [heq] at hv
      cases hk'
      simp only [VR] at hv
      refine builtin_pure hr rfl (u := goInt 0) ?_ ?_
      · simp [Builtin.len_, h0, run_und ht, hv]
      · rw [VR_int]; rfl
theorem S_cap (hr : Rep G hole σ s w) (hg : ∀ g, g < G → ¬ hole g) (hf : FR σ ⟨s.next, hole⟩ fr a.tmps) {e : TypeId} {x : Operand} {k : IK} (h0 : ts[0]? = some t) (ht : P.underlying t = some (.slice e))
    (h : m1 (ta G x) .bCap = some k) (hk : stepK k call fr s = some (v, s')) :
    Does G hole σ s w v s' ((builtin .cap ts ty cs #[a.eval x]).run P w) := by
  obtain ⟨i, hi, rfl⟩ := m1_ok h
  have hv := ta_ok hr hg hf hi
  obtain ⟨hk', rfl⟩ := ret_ok hk
  unfold doCap at hk'
  split at hk' <;> try (cases hk'; done)
  · rename_i b o n c heq
    rw [heq] at hv
    cases hk'
    obtain ⟨cap, hu, _, hc⟩ := slc_form hv
    dsimp only at hc
    subst hc
    refine builtin_pure hr rfl (u := goInt cap) ?_ ?_
    · simp [Builtin.cap_, h0, run_und ht, hu]
    · rw [VR_int]; rfl
  · rename_i heq
    rw [heq] at hv
    cases hk'
    simp only [VR] at hv
    refine builtin_pure hr rfl (u := goInt 0) ?_ ?_
    · simp [Builtin.cap_, h0, run_und ht, hv]
    · rw [VR_int]; rfl
theorem S_min (hr : Rep G hole σ s w) (hg : ∀ g, g < G → ¬ hole g) (hf : FR σ ⟨s.next, hole⟩ fr a.tmps) {x y : Operand} {k : IK}
    (h : m2 (ta G x) (ta G y) .bMin = some k) (hk : stepK k call fr s = some (v, s')) :
    Does G hole σ s w v s' ((builtin .min ts ty cs #[a.eval x, a.eval y]).run P w) := by
  obtain ⟨i, j, hi, hj, rfl⟩ := m2_ok h
  have hvi := ta_ok hr hg hf hi
  have hvj := ta_ok hr hg hf hj
  obtain ⟨hk', rfl⟩ := ret_ok hk
  unfold doMin at hk'
  split at hk' <;> try (cases hk'; done)
  rename_i k1 n1 heq
  split at hk' <;> try (cases hk'; done)
  rename_i k2 n2 heq2
  rw [heq] at hvi; rw [heq2] at hvj
  cases hk'
  have e1 := VR_int.1 hvi
  have e2 := VR_int.1 hvj
  refine builtin_pure hr rfl (u := .int k1 (if n2 < n1 then n2 else n1)) ?_ ?_
  · simp [Builtin.min_, e1, e2, Builtin.min2]
  · rw [VR_int]
    congr 1
    rw [ile_eq]
    by_cases hh : n1 ≤ n2
    · rw [decide_eq_true hh]; simp; omega
    · rw [decide_eq_false hh]; simp; omega
theorem S_max (hr : Rep G hole σ s w) (hg : ∀ g, g < G → ¬ hole g) (hf : FR σ ⟨s.next, hole⟩ fr a.tmps) {x y : Operand} {k : IK}
    (h : m2 (ta G x) (ta G y) .bMax = some k) (hk : stepK k call fr s = some (v, s')) :
    Does G hole σ s w v s' ((builtin .max ts ty cs #[a.eval x, a.eval y]).run P w) := by
  obtain ⟨i, j, hi, hj, rfl⟩ := m2_ok h
  have hvi := ta_ok hr hg hf hi
  have hvj := ta_ok hr hg hf hj
  obtain ⟨hk', rfl⟩ := ret_ok hk
  unfold doMax at hk'
  split at hk' <;> try (cases hk'; done)
  rename_i k1 n1 heq
  split at hk' <;> try (cases hk'; done)
  rename_i k2 n2 heq2
  rw [heq] at hvi; rw [heq2] at hvj
  cases hk'
  have e1 := VR_int.1 hvi
  have e2 := VR_int.1 hvj
  refine builtin_pure hr rfl (u := .int k1 (if n2 > n1 then n2 else n1)) ?_ ?_
  · simp [Builtin.max_, e1, e2, Builtin.max2]
  · rw [VR_int]
    congr 1
    rw [ile_eq]
    by_cases hh : n2 ≤ n1
    · rw [decide_eq_true hh]; simp; omega
    · rw [decide_eq_false hh]; simp; omega
theorem S_udata (hr : Rep G hole σ s w) (hg : ∀ g, g < G → ¬ hole g) (hf : FR σ ⟨s.next, hole⟩ fr a.tmps) {x : Operand} {k : IK}
    (h : m1 (ta G x) .bUData = some k) (hk : stepK k call fr s = some (v, s')) :
    Does G hole σ s w v s' ((builtin .unsafeSliceData ts ty cs #[a.eval x]).run P w) := by
  obtain ⟨i, hi, rfl⟩ := m1_ok h
  have hv := ta_ok hr hg hf hi
  obtain ⟨hk', rfl⟩ := ret_ok hk
  unfold doUData at hk'
  split at hk' <;> try (cases hk'; done)
  · rename_i heq
    rw [heq] at hv
    cases hk'
    simp only [VR] at hv
    refine builtin_pure hr rfl (u := .pointer none) ?_ (by simp only [VR])
    rw [hv]; rfl
  · rename_i b o len c heq
    rw [heq] at hv
    obtain ⟨cap, hu, hok, hc⟩ := slc_form hv
    split at hk' <;> try (cases hk'; done)
    rename_i hc0
    have hc0' := beq_false_iff.1 hc0
    cases hk'
    dsimp only at hc
    have hcap : cap ≠ 0 := by omega
    refine builtin_pure hr rfl (u := .pointer (some (σ.addr b o))) ?_ (by simp [VR, hok])
    rw [hu]
    show (ite (cap ≠ 0) (pure (.pointer (some (σ.addr b o)))) _ : Sem Value).run P w = _
    rw [if_pos hcap]; rfl
  · rename_i b o len c sz heq
    rw [heq] at hv
    obtain ⟨cap, hu, hok, hc⟩ := slc_form hv
    split at hk' <;> try (cases hk'; done)
    rename_i hc0
    have hc0' := beq_false_iff.1 hc0
    cases hk'
    dsimp only at hc
    have hcap : cap ≠ 0 := by omega
    refine builtin_pure hr rfl (u := .pointer (some (σ.addr b o))) ?_ (by simp [VR, hok])
    rw [hu]
    show (ite (cap ≠ 0) (pure (.pointer (some (σ.addr b o)))) _ : Sem Value).run P w = _
    rw [if_pos hcap]; rfl
end
end Ax
namespace Ax
open Go
section
variable {P : Program} {G : Nat} {hole : Nat → Prop} {σ : Sig} {s s' : St} {w : World} {v : AV} {fr : Tr AV} {a : Act} {call : CallT} {D : Dom} {ts : Array TypeId} {ty t : TypeId} {cs : Array Bool}
theorem arr1_0 (x : Value) : (#[x] : Array Value)[0]? = some x := rfl
theorem arr2_0 (x y : Value) : (#[x, y] : Array Value)[0]? = some x := rfl
theorem arr2_1 (x y : Value) : (#[x, y] : Array Value)[1]? = some y := rfl
theorem allCell_iff : ∀ {l : List AV}, allCell l = true ↔ ∀ x ∈ l, isCell x = true
  | [] => by simp [allCell]
  | a :: l => by
    simp only [allCell, List.mem_cons, forall_eq_or_imp]
    split
    · rename_i h; rw [allCell_iff]; simp [h]
    · rename_i h; simp [h]
theorem allCell_take {l : List AV} (h : allCell l = true) (n : Nat) : allCell (l.take n) = true := allCell_iff.2 fun x hx => allCell_iff.1 h x (List.mem_of_mem_take hx)
theorem lrep_length (z : List AV) : ∀ n, (lrep n z).length = n * z.length
  | 0 => by simp [lrep_zero]
  | n + 1 => by rw [lrep_succ, List.length_append, lrep_length z n, Nat.add_mul]; omega
theorem mem_lrep {z : List AV} {x : AV} : ∀ {n}, x ∈ lrep n z → x ∈ z
  | 0, h => by simp [lrep_zero] at h
  | n + 1, h => by rw [lrep_succ, List.mem_append] at h; exact h.elim id mem_lrep
theorem allCell_lrep {z : List AV} (h : allCell z = true) (n : Nat) : allCell (lrep n z) = true := allCell_iff.2 fun x hx => allCell_iff.1 h x (mem_lrep hx)
theorem put_map {h : Tr AObj} {n b c c' : Nat} {wl : List (Nat × Nat × Nat)} {es es' : List (AV × AV × Nat)} {ces ces' : Array MapEntry} (hr : Rep G hole σ ⟨h, n, wl⟩ w) (hb : hget h b = some (.amap es c)) (h1 : w.heap[(σ b).1]? = some (.map ces c))
    (ho : ER σ ⟨n, hole⟩ es' ces'.toList) :
    Post G hole σ ⟨h, n, wl⟩ w [(b, 0, 1)] σ ⟨hset (some (.amap es' c')) bits64 h b, n, (b, 0, 1) :: wl⟩ { w with heap := w.heap.setIfInBounds (σ b).1 (.map ces' c') } := by
  have hB : (σ b).1 < w.heap.size := (Array.getElem?_eq_some_iff.1 h1).1
  have hself : (w.heap.setIfInBounds (σ b).1 (.map ces' c'))[(σ b).1]? = some (.map ces' c') := by simp [hB]
  refine Post.put' hr hb rfl rfl rfl (by simp) ?_ ?_ ?_
  · intro k hk
    dsimp only
    rw [Array.getElem?_setIfInBounds, if_neg (Ne.symm hk)]
  · intro off _
    simp only [World.cell?, hself, h1]
  · intro o ho'
    cases ho'
    exact ⟨ces', hself, ho⟩
theorem S_copy (hr : Rep G hole σ s w) (hg : ∀ g, g < G → ¬ hole g) (hf : FR σ ⟨s.next, hole⟩ fr a.tmps) {e : TypeId} {x y : Operand} {k : IK} {n : Nat} (h0 : ts[0]? = some t) (ht : P.underlying t = some (.slice e)) (hsz : sizeO P e = some n)
    (h : m2 (ta G x) (ta G y) (.bCopy n) = some k) (hk : stepK k call fr s = some (v, s')) :
    Does G hole σ s w v s' ((builtin .copy ts ty cs #[a.eval x, a.eval y]).run P w) := by
  obtain ⟨i, j, hi, hj, rfl⟩ := m2_ok h
  have hvi := ta_ok hr hg hf hi
  have hvj := ta_ok hr hg hf hj
  obtain ⟨ti, hti, rfl⟩ := sizeO_ok hsz
  have hk' : doCopy s ti.size (ev fr i) (ev fr j) = some (v, s') := hk
  unfold doCopy at hk'
  split at hk' <;> try (cases hk'; done)
  rename_i new m hsl hln
  split at hk' <;> try (cases hk'; done)
  · rename_i heq
    rw [heq] at hvi
    cases hk'
    simp only [VR] at hvi
    obtain ⟨_, hl, cells, hfc, _⟩ := src_ok (P := P) hr hsl hln hvj (Nat.zero_le m)
    refine builtin_pure hr rfl (u := goInt 0) ?_ (by rw [VR_int]; rfl)
    simp only [Builtin.copy_, h0, arr2_0, arr2_1, hvi, Sem.run_bind, run_und ht, Result.andThen_ok, hl, run_size hti, show Nat.min m 0 = 0 from Nat.min_zero m, hfc, Sem.run_pure]; rfl
  · rename_i b o len c heq
    rw [heq] at hvi
    split at hk' <;> try (cases hk'; done)
    rename_i ty' l hb
    split at hk' <;> try (cases hk'; done)
    rename_i l' hall hl'
    obtain ⟨cap, hu, hok, _⟩ := slc_form hvi
    have hmin : nmin m len = Nat.min m len := nmin_eq m len
    obtain ⟨hnew, hl, cells, hfc, hcs⟩ := src_ok (P := P) hr hsl hln hvj (Nat.min_le_left m len)
    rw [ltake_eq, hmin, Nat.mul_eq] at hl'
    have hall' : allCell (new.take (Nat.min m len * ti.size)) = true := allCell_take hall _
    obtain ⟨rfl, h3, w', log, h4, h5, h6⟩ := put_ok (P := P) hr hb hl' hall' hcs (.inr (by rw [List.length_take, hmin]; exact Nat.min_le_left _ _)) hk'
    refine builtin_does rfl (u := goInt (Nat.min m len : Nat)) ?_ (by rw [VR_int, hmin]; rfl) h5 h6
    simp only [Builtin.copy_, h0, arr2_0, arr2_1, hu, Sem.run_bind, run_und ht, Result.andThen_ok, hl, run_size hti, hfc, Sem.run_pure, h4]
theorem S_clear (hr : Rep G hole σ s w) (hg : ∀ g, g < G → ¬ hole g) (hf : FR σ ⟨s.next, hole⟩ fr a.tmps) {d : TypeDesc} {x : Operand} {k : IK} {z : List AV} (h0 : ts[0]? = some t) (ht : P.underlying t = some d)
    (hd : (∃ e n, d = .slice e ∧ zeroOf P e = some z ∧ sizeO P e = some n ∧ z.length = n ∧ n ≠ 0) ∨ (∃ e f, d = .map e f ∧ z = [.agg []]))
    (h : m1 (ta G x) (fun i => .bClear i z) = some k) (hk : stepK k call fr s = some (v, s')) :
    Does G hole σ s w v s' ((builtin .clear ts ty cs #[a.eval x]).run P w) := by
  obtain ⟨i, hi, rfl⟩ := m1_ok h
  have hv := ta_ok hr hg hf hi
  have hk' : doClear s (ev fr i) z = some (v, s') := hk
  have hunit : ∀ D : Dom, VR σ D unit (.tuple #[]) := fun D => by simp only [unit, VR]; exact ⟨#[], rfl, by simp [VRs]⟩
  unfold doClear at hk'
  split at hk' <;> try (cases hk'; done)
  · rename_i heq
    rw [heq] at hv
    cases hk'
    simp only [VR] at hv
    refine builtin_pure hr rfl (u := .tuple #[]) ?_ (hunit _)
    rcases hd with ⟨e, n, rfl, _⟩ | ⟨e, f, rfl, rfl⟩ <;>
    · simp only [Builtin.clear_, h0, arr1_0, hv, Sem.run_bind, run_und ht, Result.andThen_ok, Sem.run_pure]
  · rename_i heq
    rw [heq] at hv
    cases hk'
    simp only [VR] at hv
    refine builtin_pure hr rfl (u := .tuple #[]) ?_ (hunit _)
    rcases hd with ⟨e, n, rfl, _⟩ | ⟨e, f, rfl, rfl⟩ <;>
    · simp only [Builtin.clear_, h0, arr1_0, hv, Sem.run_bind, run_und ht, Result.andThen_ok, Sem.run_pure]
  · rename_i b heq
    rw [heq] at hv
    split at hk' <;> try (cases hk'; done)
    rename_i es c hb
    simp only [VR] at hv
    obtain ⟨ces, h1, h2⟩ := map_rep hr hb
    have hrun : (Builtin.clear_ ts ty #[a.eval x]).run P w = .ok (.tuple #[]) { w with heap := w.heap.setIfInBounds (σ b).1 (.map #[] c) } := by
      rcases hd with ⟨e, n, rfl, _⟩ | ⟨e, f, rfl, rfl⟩ <;>
      · simp only [Builtin.clear_, h0, arr1_0, hv, Sem.run_bind, run_und ht, Result.andThen_ok, Sem.run_pure, run_getMap h1, run_setMap _ h1]
    cases s with
    | mk hh nx wl =>
    simp only [sputO, Option.some.injEq, Prod.mk.injEq] at hk'
    obtain ⟨rfl, rfl⟩ := hk'
    refine builtin_does (log := [(b, 0, 1)]) (σ' := σ) rfl hrun (hunit _) rfl ?_
    exact put_map hr hb h1 (by simp [ER])
  · rename_i b o len c heq
    rw [heq] at hv
    obtain ⟨cap, hu, hok, _⟩ := slc_form hv
    split at hk'
    · rename_i hz
      have hz0 := beq_iff.1 hz
      subst hz0
      cases hk'
      refine builtin_pure hr rfl (u := .tuple #[]) ?_ (hunit _)
      rcases hd with ⟨e, n, rfl, _⟩ | ⟨e, f, rfl, rfl⟩ <;>
      · simp only [Builtin.clear_, h0, arr1_0, hu, Sem.run_bind, run_und ht, Result.andThen_ok, Sem.run_pure]
    · rename_i hz
      have hz0 := beq_false_iff.1 hz
      split at hk' <;> try (cases hk'; done)
      rename_i ty' l hb
      split at hk' <;> try (cases hk'; done)
      rename_i l' hall hl'
      rcases hd with ⟨e, n, rfl, hzo, hsz, hzl, hn0⟩ | ⟨e, f, rfl, rfl⟩
      · obtain ⟨ti, zv, hti, hzv, hzr⟩ := zeroOf_ok hzo
        have hrep := VRs_rep (hzr σ ⟨s.next, hole⟩) len
        have hzz : zv.cells.size ≠ 0 := by
          have := VRs_len (hzr σ ⟨s.next, hole⟩)
          simp at this; omega
        rw [← zero_cells_eq zv.cells len hzz] at hrep
        have hlen := lrep_length z len
        obtain ⟨rfl, h3, w', log, h4, h5, h6⟩ := put_ok (P := P) hr hb hl' (allCell_lrep hall len) hrep (.inr (by rw [hlen, llen_eq]; exact Nat.le_refl _)) hk'
        refine builtin_does rfl (u := .tuple #[]) ?_ (hunit _) h5 h6
        cases len with
        | zero => exact absurd rfl hz0
        | succ len => simp only [Builtin.clear_, h0, arr1_0, hu, Sem.run_bind, run_und ht, Result.andThen_ok, Sem.run_pure, run_zero hti hzv, h4]
      · cases hall
end
end Ax
namespace Ax
open Go
section
variable {P : Program} {G : Nat} {hole : Nat → Prop} {σ : Sig} {s s' : St} {w : World} {v : AV} {fr : Tr AV} {a : Act} {call : CallT} {D : Dom} {ts : Array TypeId} {ty t : TypeId} {cs : Array Bool}
theorem run_loadBytes : ∀ (l : List Nat) (B o : Nat) (acc : ByteArray), (∀ (j : Nat) (n : Nat), l[j]? = some n → w.cell? ⟨B, o + j, none⟩ = some (.int .u8 n)) →
    (loadBytes ⟨B, o, none⟩ acc l.length).run P w = .ok ((l.map fun n : Nat => (n : Int)).foldl (fun r n => r.push (UInt8.ofNat n.toNat)) acc) w
  | [], B, o, acc, _ => rfl
  | n :: l, B, o, acc, h => by
    have h0 := h 0 n rfl
    simp only [Nat.add_zero] at h0
    have ih := run_loadBytes l B (o + 1) (acc.push (UInt8.ofNat n)) (fun j m hj => by
      have := h (j + 1) m (by simpa using hj)
      rw [Nat.add_assoc, Nat.add_comm 1 j]; exact this)
    simp only [List.length_cons, loadBytes, Sem.run_bind, run_load, h0, Result.andThen_ok, add_eq, List.map_cons, List.foldl_cons, Int.toNat_natCast]
    exact ih
theorem kill_ok (hr : Rep G hole σ s w) {b o n : Nat} {ty : TypeId} {l : List AV} {v₀ : AV} (hb : hget s.heap b = some (.cells ty l)) (hn : n ≠ 0) (h : skill s b 0 v₀ = some (v, s')) :
    v = v₀ ∧ s'.next = s.next ∧ ∃ log, s'.wlog = log ++ s.wlog ∧ Post G hole σ s w log σ s' (w.freeze (σ.addr b o) n) := by
  cases s with
  | mk hh nx wl =>
  simp only [skill, Option.some.injEq, Prod.mk.injEq] at h
  obtain ⟨rfl, rfl⟩ := h
  refine ⟨rfl, rfl, [(b, 0, 0)], rfl, ?_⟩
  have e : w.freeze (σ.addr b o) n = { w with heap := w.heap.modify (σ b).1 fun
      | .cells c elem (lo, hi) => .cells c elem (if lo == hi then ((σ b).2.1 + o, (σ b).2.1 + o + n) else (min lo ((σ b).2.1 + o), max hi ((σ b).2.1 + o + n)))
      | o => o } := by unfold World.freeze; rw [if_neg hn]; rfl
  rw [e]
  refine Post.put' hr hb rfl rfl rfl (by simp) ?_ ?_ (fun o ho => by cases ho)
  · intro k hk
    dsimp only
    rw [Array.getElem?_modify, if_neg (Ne.symm hk)]
  · intro off hno
    exact absurd ⟨rfl, .inl rfl⟩ hno
theorem S_ustr (hr : Rep G hole σ s w) (hg : ∀ g, g < G → ¬ hole g) (hf : FR σ ⟨s.next, hole⟩ fr a.tmps) {e : TypeId} {x y : Operand} {k : IK} (h0 : ts[0]? = some t) (ht : P.underlying t = some (.pointer e)) (hsz : sizeO P e = some 1)
    (h : m2 (ta G x) (ta G y) (.bUStr e) = some k) (hk : stepK k call fr s = some (v, s')) :
    Does G hole σ s w v s' ((builtin .unsafeString ts ty cs #[a.eval x, a.eval y]).run P w) := by
  obtain ⟨i, j, hi, hj, rfl⟩ := m2_ok h
  have hvi := ta_ok hr hg hf hi
  have hvj := ta_ok hr hg hf hj
  obtain ⟨ti, hti, hts⟩ := sizeO_ok hsz
  have hk' : doUStr s e (ev fr i) (ev fr j) = some (v, s') := hk
  unfold doUStr at hk'
  split at hk' <;> try (cases hk'; done)
  · rename_i b o heq
    rw [heq] at hvi
    split at hk' <;> try (cases hk'; done)
    rename_i k1 n heq2
    rw [heq2] at hvj
    split at hk' <;> try (cases hk'; done)
    rename_i ty' l hb
    split at hk' <;> try (cases hk'; done)
    rename_i c hc
    split at hk' <;> try (cases hk'; done)
    rename_i str hstr hty hn0 hbig
    have := beq_iff.1 hty
    subst this
    have hn : n ≠ 0 := beq_false_iff.1 hn0
    have hy := VR_int.1 hvj
    simp only [VR] at hvi
    obtain ⟨hok, hx⟩ := hvi
    obtain ⟨rfl, h3, log, h4, h5⟩ := kill_ok (o := o) (n := n) hr hb hn hk'
    obtain ⟨cc, f, h6, h7, h8, us, rest, h9, h10, h11⟩ := (hr.objs b _ hb).2
    have hbase := hr.base b _ hb
    have hcl : hcells s b = some l := by simp only [hcells, hb]
    obtain ⟨cs', hlen, hcs', hcell⟩ := cut_ok hr hcl hc
    obtain ⟨he, hlt⟩ := asNats_ok hstr hcs'
    have hsl : str.length = n := by rw [he] at hlen; simpa using hlen
    have hload := run_loadBytes (P := P) (w := w) str (σ b).1 ((σ b).2.1 + o) .empty (fun j m hj => by
      have := hcell j (.int .u8 m) (by rw [he]; simp [hj])
      rw [Sig.addr, add_eq] at this; exact this)
    rw [hsl] at hload
    have hcnt : o + n ≤ cc.size := by
      have e1 := VRs_len h11
      obtain ⟨e2, e3⟩ := lcut_ok hc
      rw [e2, List.length_take, List.length_drop] at e3
      rw [hbase, List.drop_zero] at h9
      have : cc.size = us.length + rest.length := by rw [← Array.length_toList, h9, List.length_append]
      omega
    have hlies : liesAt P P.depth e (cc.size / P.cellsOf e) ((σ b).2.1 + o) e n = true := by
      have hcell1 : P.cellsOf e = 1 := by simp [Program.cellsOf, hti, hts]
      obtain ⟨d, hdep⟩ : ∃ d, P.depth = d + 1 := ⟨2 * (P.types.size + Made.depth) + 1, rfl⟩
      have hrow : rowAt P (sameLayout P P.depth · e) P.depth e (cc.size / P.cellsOf e) ((σ b).2.1 + o) n = true := by
        rw [hdep, rowAt, hcell1, hbase]
        have : sameLayout P (d + 1) e e = true := by rw [sameLayout]; simp
        simp [this, Nat.mod_one, hcnt]
      rw [hdep] at hrow ⊢
      rw [liesAt, hdep, hrow]; rfl
    refine builtin_does (w' := w.freeze (σ.addr b o) n) rfl (u := .string ((str.map fun n : Nat => (n : Int)).foldl (fun r n => r.push (UInt8.ofNat n.toNat)) ByteArray.empty)) ?_ (by simp only [VR]; exact ⟨_, rfl, bytes_back str hlt⟩) h4 h5
    have hmax : ¬ ((n : Int) > IntKind.i64.max) := by
      have h1 := ble_iff.1 hbig
      have h2 : IntKind.i64.max = 9223372036854775807 := rfl
      unfold big at h1; omega
    rw [hx, hy]
    have e0 : (Builtin.unsafeString_ ts ty #[.pointer (some (σ.addr b o)), .int k1 (Int.ofNat n)]) = (do
      let n' ← asInt (.int k1 (Int.ofNat n))
      let some pt := ts[0]? | stuck "unsafe.String: no argument types"
      if n' < 0 then runtimePanic (.error "unsafe.String: len out of range")
      if n' > IntKind.i64.max then unsupported (.unsafePointer "String: a length above the largest int")
      if n' = 0 then pure (.string .empty)
      else if ← variablesAt (σ.addr b o) (← elemOf pt) n'.toNat then do
        let s ← loadBytes (σ.addr b o) .empty n'.toNat
        freeze (σ.addr b o) n'.toNat
        pure (.string s)
      else unsupported (.unsafePointer "String: not so many bytes at ptr")) := rfl
    rw [e0]
    have hneg : ¬ ((Int.ofNat n) < 0) := by show ¬ ((n : Int) < 0); omega
    have hz : ¬ (Int.ofNat n = 0) := by show ¬ ((n : Int) = 0); omega
    have hmax' : ¬ (Int.ofNat n > IntKind.i64.max) := hmax
    have hva : (variablesAt (σ.addr b o) e n).run P w = .ok true w := by
      simp only [variablesAt, Sem.run_bind, run_program, run_shape, Sig.addr, World.shape?, h6, Result.andThen_ok, Sem.run_pure, hlies]
    have hel : (elemOf t).run P w = .ok e w := by simp [elemOf, run_und ht]
    simp only [asInt, asIntOf, Sem.run_bind, Sem.run_pure, Result.andThen_ok, h0, Sem.run_ite, if_neg hneg, if_neg hz, if_neg hmax', hel, show (Int.ofNat n).toNat = n from rfl, hva, if_true]
    rw [Sig.addr] at *
    simp only [hload, Result.andThen_ok, run_freeze]
  · rename_i heq
    rw [heq] at hvi
    split at hk' <;> try (cases hk'; done)
    rename_i k1 n heq2
    rw [heq2] at hvj
    split at hk' <;> try (cases hk'; done)
    rename_i hn0
    have := beq_iff.1 hn0
    subst this
    cases hk'
    simp only [VR] at hvi
    have hy := VR_int.1 hvj
    refine builtin_pure hr rfl (u := .string .empty) ?_ (by simp only [VR]; exact ⟨_, rfl, rfl⟩)
    rw [hvi, hy]
    have e0 : (Builtin.unsafeString_ ts ty #[.pointer none, .int k1 (Int.ofNat 0)]) = (do
      let n' ← asInt (.int k1 (Int.ofNat 0))
      let some pt := ts[0]? | stuck "unsafe.String: no argument types"
      if n' < 0 then runtimePanic (.error "unsafe.String: len out of range")
      if n' > IntKind.i64.max then unsupported (.unsafePointer "String: a length above the largest int")
      if n' = 0 then pure (.string .empty)
      else runtimePanic (.error "unsafe.String: ptr is nil and len is not zero")) := rfl
    rw [e0]
    simp only [asInt, asIntOf, Sem.run_bind, Sem.run_pure, Result.andThen_ok, h0]
    rfl
end
end Ax
namespace Ax
open Go
section
variable {P : Program} {G : Nat} {hole : Nat → Prop} {σ : Sig} {s s' : St} {w : World} {v : AV} {fr : Tr AV} {a : Act} {call : CallT} {ts : Array TypeId} {ty : TypeId} {cs : Array Bool}
theorem S_builtin (hr : Rep G hole σ s w) (hg : ∀ g, g < G → ¬ hole g) (hf : FR σ ⟨s.next, hole⟩ fr a.tmps) {b : Builtin} {args : Array Operand} {k : IK}
    (h : trBuiltin P G b ts args.toList = some k) (hk : stepK k call fr s = some (v, s')) (hh : ¬ hole s.next) :
    Does G hole σ s w v s' ((builtin b ts ty cs (args.map a.eval)).run P w) := by
  have m1' : ∀ x, args.toList = [x] → args.map a.eval = #[a.eval x] := fun x hx => by apply Array.ext'; simp [hx]
  have m2' : ∀ x y, args.toList = [x, y] → args.map a.eval = #[a.eval x, a.eval y] := fun x y hx => by apply Array.ext'; simp [hx]
  unfold trBuiltin at h
  split at h
  · split at h <;> try (cases h; done)
    rename_i x t h0 h1
    rw [m1' x h0]
    split at h <;> try (cases h; done)
    · rename_i hu; exact S_len hr hg hf h1 hu (.inl ⟨rfl, rfl⟩) h hk
    · rename_i hu; exact S_len hr hg hf h1 hu (.inr (.inl ⟨_, rfl, rfl⟩)) h hk
    · rename_i hu; exact S_len hr hg hf h1 hu (.inr (.inr ⟨_, _, rfl, rfl⟩)) h hk
  · split at h <;> try (cases h; done)
    rename_i x t h0 h1
    rw [m1' x h0]
    split at h <;> try (cases h; done)
    rename_i hu
    exact S_cap hr hg hf h1 hu h hk
  · split at h <;> try (cases h; done)
    rename_i x y t h0 h1
    rw [m2' x y h0]
    exact S_append hr hg hf h1 h hk hh
  · split at h <;> try (cases h; done)
    rename_i x y t h0 h1
    rw [m2' x y h0]
    split at h <;> try (cases h; done)
    rename_i e hu
    split at h <;> try (cases h; done)
    rename_i n hsz
    exact S_copy hr hg hf h1 hu hsz h hk
  · split at h <;> try (cases h; done)
    rename_i x t h0 h1
    rw [m1' x h0]
    split at h <;> try (cases h; done)
    · rename_i e hu
      split at h <;> try (cases h; done)
      rename_i z n hz hsz
      split at h <;> try (cases h; done)
      rename_i hzl hn
      rw [llen_eq] at hzl
      exact S_clear hr hg hf h1 hu (.inl ⟨e, n, rfl, hz, hsz, beq_iff.1 hzl, beq_false_iff.1 hn⟩) h hk
    · rename_i hu
      exact S_clear hr hg hf h1 hu (.inr ⟨_, _, rfl, rfl⟩) h hk
  · split at h <;> try (cases h; done)
    rename_i x y h0
    rw [m2' x y h0]
    exact S_min hr hg hf h hk
  · split at h <;> try (cases h; done)
    rename_i x y h0
    rw [m2' x y h0]
    exact S_max hr hg hf h hk
  · split at h <;> try (cases h; done)
    rename_i x y t h0 h1
    rw [m2' x y h0]
    split at h <;> try (cases h; done)
    rename_i e hu
    split at h <;> try (cases h; done)
    rename_i n hsz
    split at h <;> try (cases h; done)
    rename_i hn
    have := beq_iff.1 hn
    subst this
    exact S_ustr hr hg hf h1 hu hsz h hk
  · split at h <;> try (cases h; done)
    rename_i x h0
    rw [m1' x h0]
    exact S_udata hr hg hf h hk
  · cases h
end
end Ax
