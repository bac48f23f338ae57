/- Regions that are drawn: whatever order. · Regions that are drawn: one step. · Regions that are drawn: the whole. · Code. · Functions. · Calls of functions: what the abstract run says of the model's. · Functions without a body; all calls. · Closed runs. -/
import Derived.Test.YtneabigkdcbddaaGreatDoorA8
import Derived.LoopN
import Derived.Room.MakeNoZero
import Derived.ProofKit
import Derived.RowKit3
import Derived.ChangeSame
set_option linter.unusedVariables false
set_option linter.unusedSimpArgs false
set_option linter.unusedSectionVars false
set_option linter.unnecessarySimpa false
namespace Ax
open Go
/-- what holds of the world, c being what comes next of the weighty ones -/
structure Core (G : Nat) (hole : Nat → Prop) (σ : Sig) (s : St) (w : World) (l : List IOp) (rs : List Row) (s' : St) (L : Nat → Prop) (c : Nat) (hole' : Nat → Prop) (σ' : Sig) (log : List (Nat × Nat × Nat)) (w' : World) : Prop where
  post : PostH G hole hole' σ s w log σ' (rowSt rs s' c) w'
  wlog : (rowSt rs s' c).wlog = log ++ s.wlog
  pend : ∀ (p : Nat) (o : IOp), l[p]? = some o → isNewO o = true → c ≤ p → L p → ∃ ob, rowSt rs s' (p + 1) = ⟨hset (some ob) bits64 (rowSt rs s' p).heap (s.next + newsOf (l.take p)), (rowSt rs s' p).next, (rowSt rs s' p).wlog⟩ ∧
    Pend hole' σ' (rowSt rs s' c) w' w.heap.size (s.next + newsOf (l.take p)) ob
  dist : ∀ (p q : Nat) (o oq : IOp), l[p]? = some o → isNewO o = true → c ≤ p → L p → l[q]? = some oq → isNewO oq = true → c ≤ q → L q → p ≠ q → (σ' (s.next + newsOf (l.take p))).1 ≠ (σ' (s.next + newsOf (l.take q))).1
section
variable {P : Program} {G N : Nat} {hole hole' : Nat → Prop} {σ σ' : Sig} {s s0 s' : St} {w w' : World} {l : List IOp} {rs : List Row} {fr0 fr' frc : Tr AV} {L L' : Nat → Prop} {c : Nat} {log : List (Nat × Nat × Nat)} {call : CallT} {a : Act}
  {ops : Array Oper} {ord : List Nat} {pairs : List (Nat × Nat)} {Q : Exit → Act → World → Prop}
theorem id_inj {p q : Nat} {o oq : IOp} (hp : l[p]? = some o) (hn : isNewO o = true) (hq : l[q]? = some oq) (hnq : isNewO oq = true) (hne : p ≠ q) : s.next + newsOf (l.take p) ≠ s.next + newsOf (l.take q) := by
  rcases Nat.lt_or_gt_of_ne hne with h | h
  · have := newsOf_take hp hn h; omega
  · have := newsOf_take hq hnq h; omega
/-- what the rows say -/
structure RowsOk (l : List IOp) (rs : List Row) (call : CallT) (fr0 fr' : Tr AV) (s s0 s' : St) (pairs : List (Nat × Nat)) : Prop where
  len : rs.length = l.length
  fst : rowFr rs fr' 0 = fr0
  sst : rowSt rs s' 0 = s0
  row : ∀ (p : Nat) (o : IOp), l[p]? = some o →
      (isNewO o = false → valOp o call (rowFr rs fr' p) (rowSt rs s' p) = some (rowV rs p, rowSt rs s' (p + 1)) ∧ rowFr rs fr' (p + 1) = setOp o (rowFr rs fr' p) (rowV rs p)) ∧
      (isNewO o = true → ∃ s1 : St, valOp o call (rowFr rs fr' p) ⟨(rowSt rs s' p).heap, s.next + newsOf (l.take p), (rowSt rs s' p).wlog⟩ = some (rowV rs p, s1) ∧ rowSt rs s' (p + 1) = ⟨s1.heap, (rowSt rs s' p).next, s1.wlog⟩ ∧ rowFr rs fr' (p + 1) = setOp o (rowFr rs fr' p) (rowV rs p))
  chk : ∀ p c, (p, c) ∈ pairs → ∃ o r x, l[p]? = some o ∧ rs[p]? = some r ∧ valOp o call r.fr (rowSt rs s' c) = some (r.v, x)
theorem RowsOk.fr_put (h : RowsOk l rs call fr0 fr' s s0 s' pairs) {p : Nat} {o : IOp} (hp : l[p]? = some o) : rowFr rs fr' (p + 1) = setOp o (rowFr rs fr' p) (rowV rs p) := by
  obtain ⟨h1, h2⟩ := h.row p o hp
  cases hn : isNewO o with
  | false => exact (h1 hn).2
  | true => obtain ⟨s1, _, _, h3⟩ := h2 hn; exact h3
theorem RowsOk.frame (h : RowsOk l rs call fr0 fr' s s0 s' pairs) : ∀ p, p ≤ l.length → FrameP l (rowV rs) fr0 (fun j => j < p) (rowFr rs fr' p)
  | 0, _ => by rw [h.fst]; exact FrameP.none.congr fun j => by simp
  | p + 1, hp => by
    have ho : l[p]? = some l[p] := List.getElem?_eq_getElem hp
    rw [h.fr_put ho]
    exact (h.frame p (Nat.le_of_succ_le hp)).put ho (fun j => by omega) (fun j oj path _ hj _ _ => hj)
theorem RowsOk.light (h : RowsOk l rs call fr0 fr' s s0 s' pairs) {p : Nat} {o : IOp} (hp : l[p]? = some o) (hl : isLightO o = true) : rowSt rs s' (p + 1) = rowSt rs s' p := valLight hl ((h.row p o hp).1 (light_notNew hl)).1
theorem RowsOk.same (h : RowsOk l rs call fr0 fr' s s0 s' pairs) {x : Nat} : ∀ y, x ≤ y → y ≤ l.length → (∀ (q : Nat) (oq : IOp), l[q]? = some oq → x ≤ q → q < y → isLightO oq = true) → rowSt rs s' y = rowSt rs s' x
  | 0, h1, _, _ => by rw [Nat.le_zero.1 h1]
  | y + 1, h1, h2, h3 => by
    by_cases e : x = y + 1
    · rw [e]
    · have ho : l[y]? = some l[y] := List.getElem?_eq_getElem h2
      rw [h.light ho (h3 y _ ho (by omega) (Nat.lt_succ_self _))]
      exact h.same y (by omega) (by omega) fun q oq hq h4 h5 => h3 q oq hq h4 (by omega)
/-- all that the one state tells the other tells too -/
def Within (s s' : St) : Prop := s'.next = s.next ∧ s'.wlog = s.wlog ∧ ∀ b o, hget s.heap b = some o → hget s'.heap b = some o
theorem Within.refl (s : St) : Within s s := ⟨rfl, rfl, fun _ _ h => h⟩
theorem Within.trans {s1 s2 s3 : St} (h : Within s1 s2) (h' : Within s2 s3) : Within s1 s3 := ⟨h'.1.trans h.1, h'.2.1.trans h.2.1, fun b o hb => h'.2.2 b o (h.2.2 b o hb)⟩
/-- ONE ON. -/
theorem Core.one (hro : RowsOk l rs call fr0 fr' s s0 s' pairs) (h : Core G hole σ s w l rs s' L c hole' σ' log w') {o : IOp} (hc : l[c]? = some o) (hnh : isHO o = false) (hn : isNewO o = true → L c) :
    Core G hole σ s w l rs s' L (c + 1) hole' σ' log w' ∧ Within (rowSt rs s' c) (rowSt rs s' (c + 1)) := by
  rcases kinds o with hl | hnew | hh
  · have e := hro.light hc hl
    refine ⟨⟨by rw [e]; exact h.post, by rw [e]; exact h.wlog, fun p op hp hnp hcp hL => ?_, fun p q op oq h1 h2 h3 h4 h5 h6 h7 h8 h9 => h.dist p q op oq h1 h2 (by omega) h4 h5 h6 (by omega) h8 h9⟩, by rw [e]; exact Within.refl _⟩
    rw [e]; exact h.pend p op hp hnp (by omega) hL
  · obtain ⟨ob, hm, hpd⟩ := h.pend c o hc hnew (Nat.le_refl _) (hn hnew)
    have hsm := h.post.rep.small
    have hlt := hpd.ok.1
    have hid : s.next + newsOf (l.take c) ≤ most := by dsimp only at hlt; omega
    refine ⟨⟨by rw [hm]; exact absorb_ok h.post hpd (Nat.le_add_right _ _), by rw [hm]; exact h.wlog, fun p op hp hnp hcp hL => ?_, fun p q op oq h1 h2 h3 h4 h5 h6 h7 h8 h9 => h.dist p q op oq h1 h2 (by omega) h4 h5 h6 (by omega) h8 h9⟩, by
      rw [hm]
      refine ⟨rfl, rfl, fun b x hb => ?_⟩
      dsimp only
      rw [hset_get hid, if_neg (fun e => by subst e; rw [hpd.none] at hb; cases hb)]
      exact hb⟩
    obtain ⟨ob', hm', hpd'⟩ := h.pend p op hp hnp (by omega) hL
    refine ⟨ob', hm', ?_⟩
    rw [hm]
    exact hpd'.absorb hid (id_inj hp hnp hc hnew (by omega)) (h.dist p c op o hp hnp (by omega) hL hc hnew (Nat.le_refl _) (hn hnew) (by omega))
  · rw [hh] at hnh; cases hnh
theorem Core.go (hro : RowsOk l rs call fr0 fr' s s0 s' pairs) : ∀ (k c : Nat), Core G hole σ s w l rs s' L c hole' σ' log w' → c + k ≤ l.length → (∀ (p : Nat) (o : IOp), l[p]? = some o → c ≤ p → p < c + k → isHO o = false ∧ (isNewO o = true → L p)) →
    Core G hole σ s w l rs s' L (c + k) hole' σ' log w' ∧ Within (rowSt rs s' c) (rowSt rs s' (c + k))
  | 0, c, h, _, _ => ⟨h, Within.refl _⟩
  | k + 1, c, h, hk, hall => by
    have ho : l[c]? = some l[c] := List.getElem?_eq_getElem (by omega)
    obtain ⟨h1, h2⟩ := hall c _ ho (Nat.le_refl _) (by omega)
    obtain ⟨h3, h4⟩ := h.one hro ho h1 h2
    obtain ⟨h5, h6⟩ := Core.go hro k (c + 1) h3 (by omega) fun p o hp h7 h8 => hall p o hp (by omega) (by omega)
    rw [show c + 1 + k = c + (k + 1) by omega] at h5 h6
    exact ⟨h5, h4.trans h6⟩
theorem Core.upTo' (hro : RowsOk l rs call fr0 fr' s s0 s' pairs) (h : Core G hole σ s w l rs s' L c hole' σ' log w') {d : Nat} (hcd : c ≤ d) (hd : d ≤ l.length) (hall : ∀ (p : Nat) (o : IOp), l[p]? = some o → c ≤ p → p < d → isHO o = false ∧ (isNewO o = true → L p)) :
    Core G hole σ s w l rs s' L d hole' σ' log w' ∧ Within (rowSt rs s' c) (rowSt rs s' d) := by
  have := Core.go hro (d - c) c h (by omega) (fun p o hp h1 h2 => hall p o hp h1 (by omega))
  rwa [show c + (d - c) = d by omega] at this
theorem Core.upTo (hro : RowsOk l rs call fr0 fr' s s0 s' pairs) (h : Core G hole σ s w l rs s' L c hole' σ' log w') {d : Nat} (hcd : c ≤ d) (hd : d ≤ l.length) (hall : ∀ (p : Nat) (o : IOp), l[p]? = some o → c ≤ p → p < d → isHO o = false ∧ (isNewO o = true → L p)) :
    Core G hole σ s w l rs s' L d hole' σ' log w' ∧ (rowSt rs s' d).next = (rowSt rs s' c).next := by
  obtain ⟨h1, h2⟩ := h.upTo' hro hcd hd hall
  exact ⟨h1, h2.1⟩
/-- what changed nothing that the greater state tells changed nothing that the lesser tells -/
theorem Post.shrink {s1 s2 : St} {σ2 : Sig} {w1 w2 : World} (hs : Within s1 s2) (hr : Rep G hole σ s1 w1) (hp : Post G hole σ s2 w1 [] σ2 s2 w2) : Post G hole σ s1 w1 [] σ2 s1 w2 := by
  obtain ⟨hn, _, hsub⟩ := hs
  have hD : (⟨s2.next, hole⟩ : Dom) = ⟨s1.next, hole⟩ := by rw [hn]
  have hext := hp.ext
  have hkept := hp.kept
  have hobj := hp.rep.objs
  rw [hD] at hext hkept hobj
  refine ⟨hext, fun b h => h, Nat.le_refl _, ⟨hp.rep.glob, by rw [← hn]; exact hp.rep.le, fun b o hb => ?_, fun b o hb => hp.rep.base b o (hsub b o hb), fun b b' o o' hb hb' hne => hp.rep.inj b b' o o' (hsub b o hb) (hsub b' o' hb') hne, by rw [← hn]; exact hp.rep.holes, by rw [← hn]; exact hp.rep.small, fun b o hb => hp.rep.okh b o (hsub b o hb)⟩, hkept, fun b o hb hg => absurd (hr.ok hg) hb, fun b o _ hg => ⟨o, hg⟩, fun e he => by cases he⟩
  have := hobj b o (hsub b o hb)
  rw [hn] at this
  exact this
/-- behind a run of which the state tells -/
theorem Core.after (h : Core G hole σ s w l rs s' L c hole' σ' log w') {d : Nat} {σ2 : Sig} {l2 : List (Nat × Nat × Nat)} {w2 : World} (hcd : c ≤ d) (hw : (rowSt rs s' d).wlog = l2 ++ (rowSt rs s' c).wlog) (hp : Post G hole' σ' (rowSt rs s' c) w' l2 σ2 (rowSt rs s' d) w2)
    (hL : ∀ (p : Nat) (o : IOp), l[p]? = some o → isNewO o = true → (L' p ↔ L p)) : Core G hole σ s w l rs s' L' d hole' σ2 (l2 ++ log) w2 := by
  refine ⟨h.post.trans hp, by rw [hw, h.wlog, List.append_assoc], fun p o hpo hn hcp hL' => ?_, fun p q o oq h1 h2 h3 h4 h5 h6 h7 h8 h9 => ?_⟩
  · obtain ⟨ob, h1, h2⟩ := h.pend p o hpo hn (by omega) ((hL p o hpo hn).1 hL')
    exact ⟨ob, h1, h2.keep hp⟩
  · obtain ⟨_, _, g1⟩ := h.pend p o h1 h2 (by omega) ((hL p o h1 h2).1 h4)
    obtain ⟨_, _, g2⟩ := h.pend q oq h5 h6 (by omega) ((hL q oq h5 h6).1 h8)
    rw [hp.ext _ g1.ok, hp.ext _ g2.ok]
    exact h.dist p q o oq h1 h2 (by omega) ((hL p o h1 h2).1 h4) h5 h6 (by omega) ((hL q oq h5 h6).1 h8) h9
/-- WHAT HOLDS ALL ALONG. -/
structure Inv (G : Nat) (hole : Nat → Prop) (σ : Sig) (s : St) (w : World) (l : List IOp) (rs : List Row) (s' : St) (fr0 : Tr AV) (dp : List (List Nat)) (a : Act) (L : Nat → Prop) (a' : Act) (w' : World) : Prop where
  down : ∀ p q, L p → q ∈ nthL dp p → L q
  defers : a'.defers = a.defers
  tsize : a'.tmps.size = a.tmps.size
  ex : ∃ c hole' σ' log frc, c ≤ l.length ∧ (c = 0 ∨ ∃ (h : Nat) (oh : IOp), c = h + 1 ∧ l[h]? = some oh ∧ isHO oh = true ∧ L h) ∧ (∀ (p : Nat) (o : IOp), l[p]? = some o → isHO o = true → (L p ↔ p < c)) ∧
    (∀ (p : Nat) (o : IOp), l[p]? = some o → isNewO o = true → p < c → L p) ∧ (∀ b, hole' b ↔ hole b ∨ ∃ (p : Nat) (o : IOp), l[p]? = some o ∧ isNewO o = true ∧ ¬ L p ∧ b = s.next + newsOf (l.take p)) ∧
    Core G hole σ s w l rs s' L c hole' σ' log w' ∧ FrameP l (rowV rs) fr0 L frc ∧ FR σ' ⟨(rowSt rs s' c).next, hole'⟩ frc a'.tmps
/-- all have come -/
theorem Inv.done (hro : RowsOk l rs call fr0 fr' s s0 s' pairs) {dp : List (List Nat)} {a' : Act} (h : Inv G hole σ s w l rs s' fr0 dp a L a' w') (hall : ∀ p, p < l.length → L p) (hq : Goes G hole σ s w a fr' s' (Q .normal)) : Q .normal a' w' := by
  obtain ⟨c, hole', σ', log, frc, hc, _, hH, _, hhol, hcore, hfp, hfr⟩ := h.ex
  obtain ⟨h1, h2⟩ := hcore.upTo hro hc (Nat.le_refl _) fun p o hp h1 h2 => by
    refine ⟨?_, fun _ => hall p h2⟩
    cases hh : isHO o with
    | false => rfl
    | true => have := (hH p o hp hh).1 (hall p h2); omega
  have hs : rowSt rs s' l.length = s' := by unfold rowSt; rw [List.getElem?_eq_none (by rw [hro.len]; exact Nat.le_refl _)]
  have hf : rowFr rs fr' l.length = fr' := by unfold rowFr; rw [List.getElem?_eq_none (by rw [hro.len]; exact Nat.le_refl _)]
  have hhole : hole' = hole := by
    funext b
    refine propext ((hhol b).trans ⟨fun h => h.elim id ?_, .inl⟩)
    rintro ⟨p, o, hp, _, hnL, _⟩
    exact absurd (hall p (lt_of_get hp)) hnL
  subst hhole
  have hfn := hro.frame l.length (Nat.le_refl _)
  rw [hf] at hfn
  refine hq a' w' σ' log h.defers h.tsize ?_ ?_ ?_
  · rw [← h2, hs] at hfr
    intro t ht
    have e : frc.get (pth 12 t) = fr'.get (pth 12 t) := hfp.eq hfn fun j o hj _ => ⟨fun _ => lt_of_get hj, fun _ => hall j (lt_of_get hj)⟩
    have := hfr t ht
    simp only [ev, e] at this ⊢
    exact this
  · rw [← hs]; exact h1.wlog
  · have := h1.post; rw [hs] at this; exact this
end
end Ax
namespace Ax
open Go
section
variable {P : Program} {G N : Nat} {hole : Nat → Prop} {σ : Sig} {s s0 s' : St} {w w' : World} {l : List IOp} {rs : List Row} {fr0 fr' : Tr AV} {L L' : Nat → Prop} {call : CallT} {a a' : Act}
  {ops : Array Oper} {ord : List Nat} {pairs : List (Nat × Nat)} {Q : Exit → Act → World → Prop}
theorem row_get (h : RowsOk l rs call fr0 fr' s s0 s' pairs) {p : Nat} {r : Row} (hr : rs[p]? = some r) : rowFr rs fr' p = r.fr ∧ rowV rs p = r.v := by
  unfold rowFr rowV; rw [hr]; exact ⟨rfl, rfl⟩
theorem Inv.step (hf : Facts P G N ops ord l pairs) (hro : RowsOk l rs call fr0 fr' s s0 s' pairs) (hc : CallOk P G call) (hg : ∀ g, g < G → ¬ hole g) (hr : Rep G hole σ s w) (hN : N ≤ a.tmps.size)
    {p i : Nat} {o : IOp} {oo : Oper} (hp : l[p]? = some o) (hoo : ops[i]? = some oo) (ht : trOper P G N ops oo = some o) (hnew : newOp oo.op = isNewO o) (hgd : isNewO o = true → gOf o = [])
    (inv : Inv G hole σ s w l rs s' fr0 (depPos ops ord) a L a' w') (hnL : ¬ L p) (hdep : ∀ q ∈ nthL (depPos ops ord) p, L q) (hL' : ∀ q, L' q ↔ L q ∨ q = p) {K : Act → World → Prop}
    (hK : ∀ a'' w'', Inv G hole σ s w l rs s' fr0 (depPos ops ord) a L' a'' w'' → K a'' w'') : wpOp P ops Q i K a' w' := by
  obtain ⟨c, hole', σ', log, frc, hcl, hcf, hH, hNw, hhol, hcore, hfp, hfr⟩ := inv.ex
  have anc : ∀ q, Anc (depPos ops ord) q p → L q := fun q hq => hq.listed inv.down hdep
  have anc' : ∀ j, L j → ¬ Anc (depPos ops ord) p j := fun j hj ha => hnL (ha.listed inv.down fun r hr => inv.down j r hj hr)
  have hple := lt_of_get hp
  have hg' : ∀ g, g < G → ¬ hole' g := fun g hg1 hh => by
    rcases (hhol g).1 hh with h | ⟨q, oq, _, _, _, rfl⟩
    · exact hg g hg1 h
    · have := hr.le; omega
  have hN' : N ≤ a'.tmps.size := by rw [inv.tsize]; exact hN
  have agree : ∀ path, IArg.t path ∈ argsOf (kOf o) ++ gOf o → frc.get path = (rowFr rs fr' p).get path := fun path hpath =>
    hfp.eq (hro.frame p (Nat.le_of_lt hple)) fun j oj hj hd => by
      by_cases e : j = p
      · subst e; exact ⟨fun h => absurd h hnL, fun h => absurd h (Nat.lt_irrefl _)⟩
      · have htc : touches (dOf oj) o = true := by rw [hd]; simp only [touches, reads_iff.2 hpath, Bool.true_or]
        rcases hf.tmp p j o oj hp hj e htc with h | h
        · exact ⟨fun _ => h.lt hf.lt, fun _ => anc j h⟩
        · have := h.lt hf.lt
          exact ⟨fun hl => absurd h (anc' j hl), fun hl => absurd this (by omega)⟩
  have hput : FrameP l (rowV rs) fr0 L' (setOp o frc (rowV rs p)) := hfp.put hp hL' fun j oj path hj hLj hdj hdo => by
    have e : j ≠ p := fun e => hnL (e ▸ hLj)
    have htc : touches (dOf oj) o = true := by rw [hdj]; simp only [touches, dOpt, hdo, pEq_iff.2 rfl, Bool.or_true]
    rcases hf.tmp p j o oj hp hj e htc with h | h
    · exact h.lt hf.lt
    · exact absurd h (anc' j hLj)
  have hdown : ∀ r q, L' r → q ∈ nthL (depPos ops ord) r → L' q := fun r q hr' hq => by
    rcases (hL' r).1 hr' with h | h
    · exact (hL' q).2 (.inl (inv.down r q h hq))
    · subst h; exact (hL' q).2 (.inl (hdep q hq))
  have sameL : ∀ (q : Nat), q ≠ p → (L' q ↔ L q) := fun q hq => (hL' q).trans ⟨fun h => h.elim id fun e => absurd e hq, .inl⟩
  rcases kinds o with hl | hn | hh
  · -- light
    have hnn := light_notNew hl
    have hrow := ((hro.row p o hp).1 hnn).1
    have est := hro.light hp hl
    obtain ⟨d, hcd, hdl, hmid, hval⟩ : ∃ d, c ≤ d ∧ d ≤ l.length ∧ (∀ (q : Nat) (oq : IOp), l[q]? = some oq → c ≤ q → q < d → isHO oq = false ∧ (isNewO oq = true → L q)) ∧ valOp o call frc (rowSt rs s' d) = some (rowV rs p, rowSt rs s' d) := by
      rw [show (∃ d, c ≤ d ∧ d ≤ l.length ∧ (∀ (q : Nat) (oq : IOp), l[q]? = some oq → c ≤ q → q < d → isHO oq = false ∧ (isNewO oq = true → L q)) ∧ valOp o call frc (rowSt rs s' d) = some (rowV rs p, rowSt rs s' d)) ↔ (∃ d, c ≤ d ∧ d ≤ l.length ∧ (∀ (q : Nat) (oq : IOp), l[q]? = some oq → c ≤ q → q < d → isHO oq = false ∧ (isNewO oq = true → L q)) ∧ valOp o call (rowFr rs fr' p) (rowSt rs s' d) = some (rowV rs p, rowSt rs s' d)) by
        simp only [valOp_congr agree]]
      cases hpu : isPureO o with
      | true => exact ⟨c, Nat.le_refl _, hcl, fun q oq _ h1 h2 => absurd h2 (by omega), valPure hpu hrow⟩
      | false =>
        obtain ⟨d, hcd, hdm, hmid, hwhy⟩ := hf.read p o c hp hl hpu (hcf.imp id fun ⟨h, oh, h1, h2, h3, _⟩ => ⟨h, oh, h1, h2, h3⟩) (fun q oq hq hhq ha => (hH q oq hq hhq).1 (anc q ha)) (fun h hch ha => by
          rcases hcf with h0 | ⟨h', oh, h1, _, _, h4⟩
          · omega
          · have : h' = h := by omega
            subst this; exact anc' h' h4 ha)
        have hdl : d ≤ l.length := Nat.le_trans hdm (Nat.max_le.2 ⟨Nat.le_of_lt hple, hcl⟩)
        refine ⟨d, hcd, hdl, fun q oq hq h1 h2 => ⟨(hmid q oq hq h1 h2).1, fun hnq => anc q ((hmid q oq hq h1 h2).2 hnq)⟩, ?_⟩
        rcases hwhy with hall | hpair
        · have e : rowSt rs s' d = rowSt rs s' p := by
            by_cases hcp : d ≤ p
            · exact (hro.same p hcp (Nat.le_of_lt hple) fun q oq hq h1 h2 => hall q oq hq (by rw [show Nat.min p d = d from Nat.min_eq_right hcp]; exact h1) (by rw [show Nat.max p d = p from Nat.max_eq_left hcp]; exact h2)).symm
            · have hpc : p ≤ d := by omega
              exact hro.same d hpc hdl fun q oq hq h1 h2 => hall q oq hq (by rw [show Nat.min p d = p from Nat.min_eq_left hpc]; exact h1) (by rw [show Nat.max p d = d from Nat.max_eq_right hpc]; exact h2)
          rw [e]; rw [est] at hrow; exact hrow
        · obtain ⟨o', r, x, h1, h2, h3⟩ := hro.chk p d hpair
          rw [hp] at h1; cases h1
          obtain ⟨e1, e2⟩ := row_get hro h2
          have := valLight hl h3
          subst this
          rw [e1, e2]; exact h3
    obtain ⟨hcd', hwi⟩ := hcore.upTo' hro hcd hdl hmid
    have hfrd : FR σ' ⟨(rowSt rs s' d).next, hole'⟩ frc a'.tmps := by rw [hwi.1]; exact hfr
    refine op_step hc hcd'.post.rep hg' hfrd hN' hoo ht hval fun u w'' ⟨σ2, l2, g1, g2, g3⟩ => ?_
    have hl2 : l2 = [] := by simpa using g2
    subst hl2
    have g3 := Post.shrink hwi hcore.post.rep g3
    have g2 : (rowSt rs s' c).wlog = [] ++ (rowSt rs s' c).wlog := rfl
    rw [hwi.1] at g1
    refine hK _ _ ⟨hdown, (put_defers ..).trans inv.defers, (put_size ..).trans inv.tsize, c, hole', σ2, [] ++ log, _, hcl, ?_, ?_, ?_, ?_, ?_, hput, (hfr.mono g3.mono).op hN' ht g1⟩
    · exact hcf.imp id fun ⟨h, oh, h1, h2, h3, h4⟩ => ⟨h, oh, h1, h2, h3, (hL' h).2 (.inl h4)⟩
    · intro q oq hq hhq
      have : q ≠ p := fun e => by subst e; rw [hp] at hq; cases hq; rw [(h_not hhq).1] at hl; cases hl
      rw [sameL q this]; exact hH q oq hq hhq
    · intro q oq hq hnq hqc
      exact (hL' q).2 (.inl (hNw q oq hq hnq hqc))
    · intro b
      rw [hhol b]
      have : ∀ (q : Nat) (oq : IOp), l[q]? = some oq → isNewO oq = true → (¬ L q ↔ ¬ L' q) := fun q oq hq hnq => by
        have : q ≠ p := fun e => by subst e; rw [hp] at hq; cases hq; rw [hnn] at hnq; cases hnq
        rw [sameL q this]
      constructor
      · rintro (h | ⟨q, oq, h1, h2, h3, h4⟩)
        · exact .inl h
        · exact .inr ⟨q, oq, h1, h2, (this q oq h1 h2).1 h3, h4⟩
      · rintro (h | ⟨q, oq, h1, h2, h3, h4⟩)
        · exact .inl h
        · exact .inr ⟨q, oq, h1, h2, (this q oq h1 h2).2 h3, h4⟩
    · refine hcore.after (Nat.le_refl _) g2 g3 fun q oq hq hnq => sameL q fun e => ?_
      subst e; rw [hp] at hq; cases hq; rw [hnn] at hnq; cases hnq
  · -- a new block
    have hpc : c ≤ p := by
      rcases Nat.lt_or_ge p c with h | h
      · exact absurd (hNw p o hp hn h) hnL
      · exact h
    have hnl : isLightO o = false := by
      cases hl : isLightO o with
      | false => rfl
      | true => rw [light_notNew hl] at hn; cases hn
    have hnh : isHO o = false := by unfold isHO; rw [hn]; simp
    obtain ⟨s1, hval, hst, _⟩ := (hro.row p o hp).2 hn
    rw [← valOp_congr agree] at hval
    obtain ⟨hop, _, _, h4⟩ := trOper_ok ht
    have hgu : oo.guard = none ∧ ∀ call fr s, valOp o call fr s = stepK (kOf o) call fr s := by
      rcases h4 with ⟨h5, _, h6⟩ | ⟨_, _, _, _, _, _, _, _, _, h5, _⟩
      · exact ⟨h5, h6⟩
      · rw [hgd hn] at h5; cases h5
    rw [hgu.2] at hval
    have hidh : hole' (s.next + newsOf (l.take p)) := (hhol _).2 (.inr ⟨p, o, hp, hn, hnL, rfl⟩)
    have hidlt := hcore.post.rep.holes _ hidh
    have hsm := hcore.post.rep.small
    obtain ⟨ob, f, hna⟩ := N_op hcore.post.rep hg' hfr hop (hnew.trans hn) hval
    have hstep := hna.step (rowSt rs s' p).heap (s.next + newsOf (l.take p)) (rowSt rs s' p).wlog (by omega)
    rw [hval] at hstep
    simp only [Option.some.injEq, Prod.mk.injEq] at hstep
    obtain ⟨hv, hs1⟩ := hstep
    obtain ⟨u, obj, size, hrun, hmade⟩ := hna.made
    have hmk : rowSt rs s' (p + 1) = ⟨hset (some ob) bits64 (rowSt rs s' p).heap (s.next + newsOf (l.take p)), (rowSt rs s' p).next, (rowSt rs s' p).wlog⟩ := by rw [hst, hs1]
    have hfill := fill_ok (size := size) (obj := obj) (hole2 := fun b => hole' b ∧ b ≠ s.next + newsOf (l.take p)) hcore.post.rep hidh (Nat.le_trans hr.le (Nat.le_add_right _ _)) (fun b => Iff.rfl)
    obtain ⟨hvr, hor⟩ := hmade (σ'.at (s.next + newsOf (l.take p)) w'.heap.size 0 size) ⟨(rowSt rs s' c).next, fun b => hole' b ∧ b ≠ s.next + newsOf (l.take p)⟩ (s.next + newsOf (l.take p)) hfill.mono ⟨hidlt, fun h => h.2 rfl⟩ (Sig.at_self ..)
    rw [← hv] at hvr
    have hpn := Pend.new (B0 := w.heap.size) (size := size) (obj := obj) (ob := ob) (hole2 := fun b => hole' b ∧ b ≠ s.next + newsOf (l.take p)) hcore.post.rep hidh (fun b => Iff.rfl) hcore.post.kept.size (hor _ Array.getElem?_push_size)
    unfold wpOp
    simp only [hoo]
    rw [if_pos (show Region.wanted oo (yielded ops a'.tmps) = true by simp [Region.wanted, hgu.1])]
    refine .inl ?_
    unfold Oper.wp
    rw [hrun, Oper.upon_value]
    refine hK _ _ ⟨hdown, (put_defers ..).trans inv.defers, (put_size ..).trans inv.tsize, c, fun b => hole' b ∧ b ≠ s.next + newsOf (l.take p), σ'.at (s.next + newsOf (l.take p)) w'.heap.size 0 size, log, _, hcl, ?_, ?_, ?_, ?_, ⟨?_, hcore.wlog, ?_, ?_⟩, hput, (hfr.mono hfill.mono).op hN' ht hvr⟩
    · exact hcf.imp id fun ⟨h, oh, h1, h2, h3, h4⟩ => ⟨h, oh, h1, h2, h3, (hL' h).2 (.inl h4)⟩
    · intro q oq hq hhq
      have : q ≠ p := fun e => by subst e; rw [hp] at hq; cases hq; rw [hhq] at hnh; cases hnh
      rw [sameL q this]; exact hH q oq hq hhq
    · intro q oq hq hnq hqc
      exact (hL' q).2 (.inl (hNw q oq hq hnq hqc))
    · intro b
      constructor
      · rintro ⟨h1, h2⟩
        rcases (hhol b).1 h1 with h | ⟨q, oq, g1, g2, g3, g4⟩
        · exact .inl h
        · have hqp : q ≠ p := fun e => h2 (by rw [g4, e])
          exact .inr ⟨q, oq, g1, g2, fun h => g3 ((sameL q hqp).1 h), g4⟩
      · rintro (h | ⟨q, oq, g1, g2, g3, g4⟩)
        · refine ⟨(hhol b).2 (.inl h), fun e => ?_⟩
          have := hr.holes b h
          omega
        · have hqp : q ≠ p := fun e => g3 ((hL' q).2 (.inr e))
          refine ⟨(hhol b).2 (.inr ⟨q, oq, g1, g2, fun h => g3 ((sameL q hqp).2 h), g4⟩), ?_⟩
          rw [g4]; exact id_inj g1 g2 hp hn hqp
    · exact hcore.post.trans hfill
    · intro q oq hq hnq hcq hLq
      rcases (hL' q).1 hLq with h | h
      · obtain ⟨ob', g1, g2⟩ := hcore.pend q oq hq hnq hcq h
        exact ⟨ob', g1, g2.keep hfill⟩
      · subst h; exact ⟨ob, hmk, hpn⟩
    · have hold : ∀ (q : Nat) (oq : IOp), l[q]? = some oq → isNewO oq = true → c ≤ q → L q → ((σ'.at (s.next + newsOf (l.take p)) w'.heap.size 0 size) (s.next + newsOf (l.take q))) = σ' (s.next + newsOf (l.take q)) ∧ (σ' (s.next + newsOf (l.take q))).1 < w'.heap.size := fun q oq hq hnq hcq h => by
        obtain ⟨ob', g1, g2⟩ := hcore.pend q oq hq hnq hcq h
        exact ⟨Sig.at_ne _ _ _ _ (fun e => g2.ok.2 (e ▸ hidh)), g2.high⟩
      intro q1 q2 o1 o2 h1 h2 h3 h4 h5 h6 h7 h8 h9
      rcases (hL' q1).1 h4 with e1 | e1
      · obtain ⟨x1, x2⟩ := hold q1 o1 h1 h2 h3 e1
        rcases (hL' q2).1 h8 with e2 | e2
        · obtain ⟨y1, y2⟩ := hold q2 o2 h5 h6 h7 e2
          rw [x1, y1]; exact hcore.dist q1 q2 o1 o2 h1 h2 h3 e1 h5 h6 h7 e2 h9
        · subst e2; rw [x1, Sig.at_self]; exact Nat.ne_of_lt x2
      · subst e1
        rcases (hL' q2).1 h8 with e2 | e2
        · obtain ⟨y1, y2⟩ := hold q2 o2 h5 h6 h7 e2
          rw [y1, Sig.at_self]; exact (Nat.ne_of_lt y2).symm
        · exact absurd e2.symm h9
  · -- weighty
    obtain ⟨hnl, hnn⟩ := h_not hh
    have hpc : c ≤ p := by
      rcases Nat.lt_or_ge p c with h | h
      · exact absurd ((hH p o hp hh).2 h) hnL
      · exact h
    have hbef : ∀ (q : Nat) (oq : IOp), l[q]? = some oq → q < p → isLightO oq = false → L q := fun q oq hq hqp hlq => anc q (hf.heavy p q o oq hp hq hqp hh hlq)
    obtain ⟨hcp, hnx⟩ := hcore.upTo hro hpc (Nat.le_of_lt hple) fun q oq hq h1 h2 => by
      refine ⟨?_, fun hnq => hbef q oq hq h2 ?_⟩
      · cases hhq : isHO oq with
        | false => rfl
        | true => have := (hH q oq hq hhq).1 (hbef q oq hq h2 (h_not hhq).1); omega
      · cases hlq : isLightO oq with
        | false => rfl
        | true => rw [light_notNew hlq] at hnq; cases hnq
    have hval := ((hro.row p o hp).1 hnn).1
    rw [← valOp_congr agree] at hval
    have hfr' : FR σ' ⟨(rowSt rs s' p).next, hole'⟩ frc a'.tmps := by rw [hnx]; exact hfr
    refine op_step hc hcp.post.rep hg' hfr' hN' hoo ht hval fun u w'' ⟨σ2, l2, g1, g2, g3⟩ => hK _ _ ⟨hdown, (put_defers ..).trans inv.defers, (put_size ..).trans inv.tsize, p + 1, hole', σ2, l2 ++ log, _, hple, ?_, ?_, ?_, ?_, ?_, hput, (hfr'.mono g3.mono).op hN' ht g1⟩
    · exact .inr ⟨p, o, rfl, hp, hh, (hL' p).2 (.inr rfl)⟩
    · intro q oq hq hhq
      rcases Nat.lt_trichotomy q p with h | h | h
      · exact ⟨fun _ => by omega, fun _ => (hL' q).2 (.inl (hbef q oq hq h (h_not hhq).1))⟩
      · exact ⟨fun _ => by omega, fun _ => (hL' q).2 (.inr h)⟩
      · refine ⟨fun h1 => ?_, fun h1 => by omega⟩
        have := (hH q oq hq hhq).1 ((sameL q (by omega)).1 h1)
        omega
    · intro q oq hq hnq hqc
      have hqp : q ≠ p := fun e => by subst e; rw [hp] at hq; cases hq; rw [hnn] at hnq; cases hnq
      refine (hL' q).2 (.inl (hbef q oq hq (by omega) ?_))
      cases hlq : isLightO oq with
      | false => rfl
      | true => rw [light_notNew hlq] at hnq; cases hnq
    · intro b
      rw [hhol b]
      have : ∀ (q : Nat) (oq : IOp), l[q]? = some oq → isNewO oq = true → (¬ L q ↔ ¬ L' q) := fun q oq hq hnq => by
        have : q ≠ p := fun e => by subst e; rw [hp] at hq; cases hq; rw [hnn] at hnq; cases hnq
        rw [sameL q this]
      constructor
      · rintro (h | ⟨q, oq, h1, h2, h3, h4⟩)
        · exact .inl h
        · exact .inr ⟨q, oq, h1, h2, (this q oq h1 h2).1 h3, h4⟩
      · rintro (h | ⟨q, oq, h1, h2, h3, h4⟩)
        · exact .inl h
        · exact .inr ⟨q, oq, h1, h2, (this q oq h1 h2).2 h3, h4⟩
    · refine hcp.after (Nat.le_succ _) g2 g3 fun q oq hq hnq => sameL q fun e => ?_
      subst e; rw [hp] at hq; cases hq; rw [hnn] at hnq; cases hnq
end
end Ax
namespace Ax
open Go
/-- the places that have come -/
def Lst (ord : List Nat) (listed : Array Bool) (p : Nat) : Prop := ∃ i, ord[p]? = some i ∧ listed.getD i false = true
theorem posOf_get : ∀ {ord : List Nat} {x : Nat}, posOf ord x < ord.length → ord[posOf ord x]? = some x
  | [], x, h => by simp [posOf] at h
  | a :: ord, x, h => by
    unfold posOf at h ⊢
    split
    · rename_i hb; rw [beq_iff.1 hb]; rfl
    · rename_i hb
      simp only [hb, List.length_cons] at h
      have e : Nat.add (posOf ord x) 1 = posOf ord x + 1 := rfl
      rw [e] at h ⊢
      rw [List.getElem?_cons_succ]
      exact posOf_get (by omega)
theorem cnt_set : ∀ (l : List Bool) (i : Nat), l[i]? = some false → (l.set i true).count false + 1 = l.count false
  | [], i, h => by simp at h
  | b :: l, 0, h => by simp at h; subst h; simp
  | b :: l, i + 1, h => by
    have := cnt_set l i (by simpa using h)
    simp only [List.set_cons_succ, List.count_cons]
    omega
theorem cnt_zero : ∀ (l : List Bool), l.count false = 0 → ∀ (i : Nat) (b : Bool), l[i]? = some b → b = true
  | [], _, i, b, h => by simp at h
  | c :: l, h, 0, b, hb => by
    simp at hb; subst hb
    cases c with
    | true => rfl
    | false => simp at h
  | c :: l, h, i + 1, b, hb => by
    simp only [List.count_cons] at h
    exact cnt_zero l (by omega) i b (by simpa using hb)
section
variable {P : Program} {G N : Nat} {hole : Nat → Prop} {σ : Sig} {s s0 s' : St} {w w' : World} {l : List IOp} {rs : List Row} {fr fr0 fr' : Tr AV} {call : CallT} {a a' : Act}
  {ops : Array Oper} {ord : List Nat} {pairs : List (Nat × Nat)} {Q : Exit → Act → World → Prop}
theorem dep_mem {p i q : Nat} {oo : Oper} (hi : ord[p]? = some i) (hoo : ops[i]? = some oo) : q ∈ nthL (depPos ops ord) p ↔ ∃ e ∈ oo.after, Region.binds .any e = true ∧ q = posOf ord e.on := by
  have : nthL (depPos ops ord) p = (depsOf oo).map (posOf ord) := by
    unfold nthL depPos
    rw [List.getElem?_map, hi]
    simp only [Option.map_some, hoo]
  rw [this]
  simp only [depsOf, List.map_map, List.mem_map, List.mem_filter, Array.mem_toList_iff, Function.comp_apply]
  constructor
  · rintro ⟨e, ⟨h1, h2⟩, rfl⟩; exact ⟨e, h1, h2, rfl⟩
  · rintro ⟨e, h1, h2, rfl⟩; exact ⟨e, ⟨h1, h2⟩, rfl⟩
theorem dep_at (hf : Facts P G N ops ord l pairs) {p i : Nat} {oo : Oper} (hi : ord[p]? = some i) (hoo : ops[i]? = some oo) {e : Edge} (he : e ∈ oo.after) (hb : Region.binds .any e = true) :
    posOf ord e.on < p ∧ ord[posOf ord e.on]? = some e.on := by
  have h1 := hf.lt p _ ((dep_mem hi hoo).2 ⟨e, he, hb, rfl⟩)
  have h2 := lt_of_get hi
  exact ⟨h1, posOf_get (by omega)⟩
theorem all_listed (hf : Facts P G N ops ord l pairs) {listed : Array Bool} (hs : listed.size = l.length) (hr : Region.ready .any ops listed = []) : ∀ p, p < l.length → Lst ord listed p := by
  intro p
  induction p using Nat.strongRecOn with
  | ind p ih =>
    intro hp
    obtain ⟨i, oo, hi, hoo, _⟩ := hf.op p _ (List.getElem?_eq_getElem hp)
    have hi' : i < listed.size := by rw [hs, ← hf.size]; exact (Array.getElem?_eq_some_iff.1 hoo).1
    refine ⟨i, hi, ?_⟩
    cases hb : listed.getD i false with
    | true => rfl
    | false =>
      exfalso
      have : i ∈ Region.ready .any ops listed := by
        rw [mem_ready]
        refine ⟨?_, oo, hoo, fun e he hbind => ?_⟩
        · simpa [hi'] using hb
        · obtain ⟨h1, h2⟩ := dep_at hf hi hoo he hbind
          obtain ⟨j, h3, h4⟩ := ih _ h1 (by omega)
          rw [h2] at h3; cases h3; exact h4
      rw [hr] at this; cases this
theorem any_ok (hf : Facts P G N ops ord l pairs) (hro : RowsOk l rs call fr0 fr' s s0 s' pairs) (hc : CallOk P G call) (hg : ∀ g, g < G → ¬ hole g) (hr : Rep G hole σ s w) (hN : N ≤ a.tmps.size) (hq : Goes G hole σ s w a fr' s' (Q .normal)) :
    ∀ (fuel : Nat) (listed : Array Bool) (a' : Act) (w' : World), listed.size = l.length → listed.toList.count false ≤ fuel → Inv G hole σ s w l rs s' fr0 (depPos ops ord) a (Lst ord listed) a' w' → wpAny P .any ops Q fuel listed a' w' := by
  intro fuel
  induction fuel with
  | zero =>
    intro listed a' w' hs hcnt inv
    have hall : ∀ p, p < l.length → Lst ord listed p := fun p hp => by
      obtain ⟨i, oo, hi, hoo, _⟩ := hf.op p _ (List.getElem?_eq_getElem hp)
      have hi' : i < listed.size := by rw [hs, ← hf.size]; exact (Array.getElem?_eq_some_iff.1 hoo).1
      refine ⟨i, hi, ?_⟩
      have := cnt_zero listed.toList (by omega) i listed[i] (by simp [hi'])
      simp [hi', this]
    refine ⟨?_, inv.done hro hall hq⟩
    rw [List.eq_nil_iff_forall_not_mem]
    intro i hi
    rw [mem_ready] at hi
    obtain ⟨h0, oo, hoo, _⟩ := hi
    have hi' : i < listed.size := by rw [hs, ← hf.size]; exact (Array.getElem?_eq_some_iff.1 hoo).1
    have := cnt_zero listed.toList (by omega) i listed[i] (by simp [hi'])
    simp [hi', this] at h0
  | succ fuel ih =>
    intro listed a' w' hs hcnt inv
    refine ⟨fun h0 => inv.done hro (all_listed hf hs h0) hq, fun i hi => ?_⟩
    rw [mem_ready] at hi
    obtain ⟨h0, oo, hoo, hdeps⟩ := hi
    have hi' : i < listed.size := by rw [hs, ← hf.size]; exact (Array.getElem?_eq_some_iff.1 hoo).1
    obtain ⟨p, hp⟩ := List.mem_iff_getElem?.1 (hf.every i (by rw [← hs]; exact hi'))
    have hpl : p < l.length := by rw [← hf.olen]; exact lt_of_get hp
    obtain ⟨i2, oo2, hi2, hoo2, ht, hpos, hnew, hgd⟩ := hf.op p _ (List.getElem?_eq_getElem hpl)
    rw [hp] at hi2; cases hi2
    rw [hoo] at hoo2; cases hoo2
    have hlf : listed[i] = false := by simpa [hi'] using h0
    refine inv.step (L' := Lst ord (listed.setIfInBounds i true)) hf hro hc hg hr hN (List.getElem?_eq_getElem hpl) hoo ht hnew hgd ?_ ?_ ?_ fun a'' w'' inv' => ih _ a'' w'' (by simp [hs]) ?_ inv'
    · rintro ⟨j, h1, h2⟩
      rw [hp] at h1; cases h1
      simp [hi', hlf] at h2
    · intro q hq'
      obtain ⟨e, he, hb, rfl⟩ := (dep_mem hp hoo).1 hq'
      exact ⟨e.on, (dep_at hf hp hoo he hb).2, hdeps e he hb⟩
    · intro q
      constructor
      · rintro ⟨j, h1, h2⟩
        by_cases e : i = j
        · subst e
          right
          have hql : q < l.length := by rw [← hf.olen]; exact lt_of_get h1
          obtain ⟨i3, _, hi3, _, _, hpos3, _⟩ := hf.op q _ (List.getElem?_eq_getElem hql)
          rw [h1] at hi3; cases hi3
          exact hpos3.symm.trans hpos
        · left
          rw [getD_set_ne false e] at h2
          exact ⟨j, h1, h2⟩
      · rintro (⟨j, h1, h2⟩ | rfl)
        · exact ⟨j, h1, getD_set_true h2⟩
        · exact ⟨i, hp, by simp [hi']⟩
    · have := cnt_set listed.toList i (by simp [hi', hlf])
      rw [Array.toList_setIfInBounds]
      omega
theorem Post.drew (hr : Rep G hole σ s w) {w1 : World} (hh : w1.heap = w.heap) (h1 : w1.os = w.os) (h2 : w1.tape = w.tape) (h3 : w1.output = w.output) : Post G hole σ s w [] σ s w1 :=
  ⟨fun _ _ => rfl, fun _ h => h, Nat.le_refl _, hr.world hh, ⟨h1, h2, h3, by rw [hh]; exact Nat.le_refl _, fun _ _ _ => by rw [hh], fun B off _ _ => World.cell?_of_block (w := w) (by rw [hh])⟩, fun b o hb ho => absurd (hr.ok ho) hb, fun b o _ ho => ⟨o, ho⟩, fun e he => by cases he⟩
theorem region_draw_ok (hm : P.follows .mixedOrders = true) (hf : Facts P G N ops ord l pairs) (hc : CallOk P G call) (hg : ∀ g, g < G → ¬ hole g) {id : Nat} (hk : runRd l pairs call fr s = some (fr', s'))
    (hr : Rep G hole σ s w) (hfr : FR σ ⟨s.next, hole⟩ fr a.tmps) (hN : N ≤ a.tmps.size) (hq : Goes G hole σ s w a fr' s' (Q .normal)) : (Code.region id ops true).wp P Q a w := by
  refine wp_region_any hm ?_
  have hd := Post.drew (w1 := { w with drawn := w.drawn + 1 }) hr rfl rfl rfl rfl
  have hq1 := hq.step rfl rfl (l₁ := []) (by simp) hd
  have hr1 := hd.rep
  unfold runRd at hk
  split at hk <;> try (cases hk; done)
  rename_i s0 hs0
  split at hk <;> try (cases hk; done)
  rename_i rs fr1 s1 hrows
  split at hk <;> try (cases hk; done)
  rename_i hchk
  cases hk
  obtain ⟨h1, h2, h3, h4⟩ := rows_ok l _ _ _ _ _ _ hrows
  have hro : RowsOk l rs call fr fr' s s0 s' pairs := ⟨h1, h2, h3, h4, chk_ok hchk⟩
  have hno : ∀ p, ¬ Lst ord (Array.replicate ops.size false) p := by
    rintro p ⟨i, _, h⟩
    rw [Array.getD_eq_getD_getElem?] at h
    by_cases hi : i < ops.size
    · simp [hi] at h
    · simp [hi] at h
  refine any_ok hf hro hc hg hr1 hN hq1 ops.size (Array.replicate ops.size false) a _ (by simp [hf.size]) ?_ ⟨?_, rfl, rfl, 0, fun b => hole b ∨ ∃ (p : Nat) (o : IOp), l[p]? = some o ∧ isNewO o = true ∧ ¬ Lst ord (Array.replicate ops.size false) p ∧ b = s.next + newsOf (l.take p), σ, [], fr, Nat.zero_le _, .inl rfl, ?_, ?_, fun b => Iff.rfl, ⟨?_, ?_, ?_, ?_⟩, ?_, ?_⟩
  · simp
  · exact fun p q h => absurd h (hno p)
  · exact fun p o _ _ => ⟨fun h => absurd h (hno p), fun h => absurd h (Nat.not_lt_zero _)⟩
  · exact fun p o _ _ h => absurd h (Nat.not_lt_zero _)
  · rw [h3]
    cases s with
    | mk hh n wl =>
    simp only [keepRoom] at hs0
    split at hs0 <;> try (cases hs0; done)
    rename_i hle
    cases hs0
    refine reserve_ok hr1 (ble_iff.1 hle) ?_ ?_
    · rintro b (h | ⟨p, o, _, _, _, rfl⟩)
      · exact .inl h
      · exact .inr (Nat.le_add_right _ _)
    · rintro b (h | ⟨p, o, hp, hn, _, rfl⟩)
      · have := hr.holes b h; dsimp only at this; omega
      · have := newsOf_lt hp hn; dsimp only; omega
  · rw [h3]
    cases s with
    | mk hh n wl =>
    simp only [keepRoom] at hs0
    split at hs0 <;> try (cases hs0; done)
    cases hs0; rfl
  · exact fun p o _ _ _ h => absurd h (hno p)
  · exact fun p q o oq _ _ _ h => absurd h (hno p)
  · exact FrameP.none.congr fun j => ⟨fun h => h.elim, fun h => hno j h⟩
  · refine hfr.mono fun b hb => ⟨⟨?_, ?_⟩, rfl⟩
    · rw [h3]
      cases s with
      | mk hh n wl =>
      simp only [keepRoom] at hs0
      split at hs0 <;> try (cases hs0; done)
      cases hs0
      exact Nat.lt_of_lt_of_le hb.1 (Nat.le_add_right _ _)
    · rintro (h | ⟨p, o, hp, hn, _, rfl⟩)
      · exact hb.2 h
      · have := hb.1; dsimp only at this; omega
end
end Ax
namespace Ax
open Go
inductive X where | no | ok (e : Ex) (fr : Tr AV) (s : St)
abbrev CoF := CallT → Tr AV → St → X
noncomputable section
def ofOps (r : Option (Tr AV × St)) : X := Option.rec (motive := fun _ => X) .no (fun x => Prod.rec (motive := fun _ => X) (fun fr s => .ok .normal fr s) x) r
def thenX (r : X) (k : Tr AV → St → X) : X := X.rec (motive := fun _ => X) .no (fun e fr s => Ex.rec (motive := fun _ => X) (k fr s) (fun i => .ok (.exit i) fr s) (.ok .ret fr s) e) r
def blockX (id : Nat) (r : X) : X := X.rec (motive := fun _ => X) .no (fun e fr s => Ex.rec (motive := fun _ => X) (.ok .normal fr s) (fun i => Bool.rec (motive := fun _ => X) (.ok (.exit i) fr s) (.ok .normal fr s) (Nat.beq i id)) (.ok .ret fr s) e) r
def condX (v : AV) (a b : X) : X := match v with | .bool t => Bool.rec (motive := fun _ => X) b a t | _ => .no
def loopX (body : CoF) (call : CallT) : Nat → Tr AV → St → X := Nat.rec (motive := fun _ => Tr AV → St → X) (fun _ _ => .no) (fun _ ih fr s => thenX (body call fr s) ih)
def exec : IC → CoF := IC.rec (motive := fun _ => CoF)
  (fun _ fr s => .ok .normal fr s)
  (fun ops call fr s => ofOps (stepOps ops call fr s))
  (fun ops pairs call fr s => ofOps (runRd ops pairs call fr s))
  (fun _ _ ia ib call fr s => thenX (ia call fr s) (ib call))
  (fun c _ _ ia ib call fr s => condX (ev fr c) (ia call fr s) (ib call fr s))
  (fun id _ ib call fr s => blockX id (ib call fr s))
  (fun _ ib call fr s => loopX ib call 1000000 fr s)
  (fun id _ fr s => .ok (.exit id) fr s)
  (fun _ fr s => .ok .ret fr s)
  (fun _ _ _ => .no)
end
/- the plan of a region that is drawn -/
def hFirst (l0 : List IOp) (an : List (List Nat)) (n : Nat) : List Nat → List Nat → List Nat
  | done, [] => done
  | done, i :: r => match l0[i]? with
    | some o => (match isHO o with
      | true => hFirst l0 an n (done ++ ((List.range n).filter fun j => lmem j (nthL an i) && !lmem j done) ++ [i]) r
      | false => hFirst l0 an n done r)
    | none => done
def planOf (ops : Array Oper) (l0 : List IOp) : List Nat :=
  let n := l0.length
  let d := hFirst l0 (ancs [] (ops.toList.map depsOf)) n [] (List.range n)
  d ++ (List.range n).filter fun j => !lmem j d
def csOf (l : List IOp) : List Nat := 0 :: (List.range l.length).filterMap fun h => match l[h]? with | some o => if isHO o then some (h + 1) else none | none => none
def pairsFor (ops : Array Oper) (ord : List Nat) (l : List IOp) : List (Nat × Nat) :=
  let an := ancs [] (depPos ops ord)
  let cs := csOf l
  (List.range l.length).flatMap fun p => match l[p]? with
    | some o => if isLightO o && !isPureO o then cs.filterMap fun c => if readOk l an [] p c then none else some (p, adv l an p c) else []
    | none => []
def planned (ops : Array Oper) (l0 : List IOp) : IC :=
  let ord := planOf ops l0
  match mapO (lnthL l0) ord with
  | some l => (match rdCheck ops ord l (pairsFor ops ord l) with | true => .rd l (pairsFor ops ord l) | false => .bad)
  | none => .bad
section
variable (P : Program) (G N : Nat)
def trCode : Code → IC
  | .skip => .skip
  | .region _ ops draw => (match trOpers P G N ops ops.toList with
    | some l => (match draw with
      | false => .rg l
      | true => planned ops l)
    | none => .bad)
  | .seq a b => .seq (trCode a) (trCode b)
  | .cond c a b => (match ta G c with | some c => .cond c (trCode a) (trCode b) | none => .bad)
  | .block id b => .block id (trCode b)
  | .loop b => .loop (trCode b)
  | .exit id => .exit id
  | .ret => .ret
  | .label _ => .skip
  | _ => .bad
end
def exitOf : Ex → Exit | .normal => .normal | .exit id => .exit id | .ret => .ret
theorem mapO_get {α β : Type} {f : α → Option β} : ∀ {l : List α} {r : List β}, mapO f l = some r → ∀ (p : Nat) (x : α) (y : β), l[p]? = some x → r[p]? = some y → f x = some y
  | [], r, _, p, x, y, hx, _ => by simp at hx
  | v :: l, r, h, p, x, y, hx, hy => by
    simp only [mapO] at h
    split at h <;> try (cases h; done)
    rename_i a ha
    split at h <;> try (cases h; done)
    rename_i q hq
    cases h
    cases p with
    | zero => cases hx; cases hy; exact ha
    | succ p => exact mapO_get hq p x y (by simpa using hx) (by simpa using hy)
section
variable {P : Program} {G N : Nat} {hole : Nat → Prop} {call : CallT}
theorem ofOps_ok {r : Option (Tr AV × St)} {e : Ex} {fr : Tr AV} {s : St} (h : ofOps r = .ok e fr s) : e = .normal ∧ r = some (fr, s) := by
  cases r with
  | none => cases h
  | some x => obtain ⟨f, t⟩ := x; cases h; exact ⟨rfl, rfl⟩
theorem thenX_ok {r : X} {k : Tr AV → St → X} {e : Ex} {fr : Tr AV} {s : St} (h : thenX r k = .ok e fr s) :
    (∃ fr1 s1, r = .ok .normal fr1 s1 ∧ k fr1 s1 = .ok e fr s) ∨ (r = .ok e fr s ∧ e ≠ .normal) := by
  cases r with
  | no => cases h
  | ok e1 fr1 s1 =>
    cases e1 with
    | normal => exact .inl ⟨fr1, s1, rfl, h⟩
    | exit id => cases h; exact .inr ⟨rfl, by simp⟩
    | ret => cases h; exact .inr ⟨rfl, by simp⟩
theorem planned_ok (hm : P.follows .mixedOrders = true) (hc : CallOk P G call) (hg : ∀ g, g < G → ¬ hole g) {id : Nat} {ops : Array Oper} {l0 : List IOp} (ht : trOpers P G N ops ops.toList = some l0)
    {fr fr' : Tr AV} {s s' : St} {e : Ex} (hx : exec (planned ops l0) call fr s = .ok e fr' s') {σ : Sig} {w : World} {a : Act} {Q : Exit → Act → World → Prop}
    (hr : Rep G hole σ s w) (hf : FR σ ⟨s.next, hole⟩ fr a.tmps) (hN : N ≤ a.tmps.size) (hq : Goes G hole σ s w a fr' s' (Q (exitOf e))) : (Code.region id ops true).wp P Q a w := by
  unfold planned at hx
  simp only at hx
  split at hx <;> try (cases hx; done)
  rename_i l hl
  split at hx <;> try (cases hx; done)
  rename_i hck
  obtain ⟨rfl, h2⟩ := ofOps_ok hx
  obtain ⟨_, h4⟩ := trOpers_ok ht
  refine region_draw_ok hm (facts_of hck fun p o i oo ho hi hoo => ?_) hc hg h2 hr hf hN hq
  have := mapO_get hl p i o hi ho
  rw [lnthL_eq] at this
  obtain ⟨o2, g1, g2⟩ := h4 i o this
  have : ops[i]? = some o2 := by simpa using g1
  rw [hoo] at this; cases this; exact g2
theorem then_ne {x : Act → World → Prop} {Q : Exit → Act → World → Prop} {e : Ex} (h : e ≠ .normal) : Exit.then x Q (exitOf e) = Q (exitOf e) := by
  cases e with
  | normal => exact absurd rfl h
  | exit id => rfl
  | ret => rfl
theorem code_ok (hm : P.follows .mixedOrders = true) (hc : CallOk P G call) (hg : ∀ g, g < G → ¬ hole g) : ∀ (c : Code) (fr fr' : Tr AV) (s s' : St) (e : Ex), exec (trCode P G N c) call fr s = .ok e fr' s' →
    ∀ (σ : Sig) (w : World) (a : Act) (Q : Exit → Act → World → Prop), Rep G hole σ s w → FR σ ⟨s.next, hole⟩ fr a.tmps → N ≤ a.tmps.size → Goes G hole σ s w a fr' s' (Q (exitOf e)) → c.wp P Q a w := by
  intro c
  induction c with
  | skip =>
    intro fr fr' s s' e hx σ w a Q hr hf hN hq
    cases hx
    exact wp_skip (hq a w σ [] rfl rfl hf (by simp) (Post.refl hr))
  | label l =>
    intro fr fr' s s' e hx σ w a Q hr hf hN hq
    cases hx
    exact wp_label (hq a w σ [] rfl rfl hf (by simp) (Post.refl hr))
  | exit id =>
    intro fr fr' s s' e hx σ w a Q hr hf hN hq
    cases hx
    exact wp_exit (hq a w σ [] rfl rfl hf (by simp) (Post.refl hr))
  | ret =>
    intro fr fr' s s' e hx σ w a Q hr hf hN hq
    cases hx
    exact wp_ret (hq a w σ [] rfl rfl hf (by simp) (Post.refl hr))
  | region id ops draw =>
    intro fr fr' s s' e hx σ w a Q hr hf hN hq
    simp only [trCode] at hx
    split at hx <;> try (cases hx; done)
    rename_i l ht
    cases draw with
    | false =>
      obtain ⟨rfl, h2⟩ := ofOps_ok hx
      exact region_ok hc hg ht h2 hr hf hN hq
    | true => exact planned_ok hm hc hg ht hx hr hf hN hq
  | seq x y ihx ihy =>
    intro fr fr' s s' e hx σ w a Q hr hf hN hq
    refine wp_seq ?_
    rcases thenX_ok hx with ⟨fr1, s1, h1, h2⟩ | ⟨h1, h2⟩
    · refine ihx fr fr1 s s1 .normal h1 σ w a _ hr hf hN fun a1 w1 σ1 log1 g1 g2 g3 g4 g5 => ?_
      exact ihy fr1 fr' s1 s' e h2 σ1 w1 a1 Q g5.rep g3 (by rw [g2]; exact hN) (hq.step g1 g2 g4 g5)
    · refine ihx fr fr' s s' e h1 σ w a _ hr hf hN ?_
      rw [then_ne h2]; exact hq
  | cond c x y ihx ihy =>
    intro fr fr' s s' e hx σ w a Q hr hf hN hq
    simp only [trCode] at hx
    split at hx <;> try (cases hx; done)
    rename_i i hi
    have hv := ta_ok hr hg hf hi
    have hx' : condX (ev fr i) (exec (trCode P G N x) call fr s) (exec (trCode P G N y) call fr s) = .ok e fr' s' := hx
    unfold condX at hx'
    split at hx' <;> try (cases hx'; done)
    rename_i t heq
    rw [heq] at hv
    have hb := VR_bool.1 hv
    refine wp_cond hb ?_
    cases t with
    | true => exact ihx fr fr' s s' e hx' σ w a Q hr hf hN hq
    | false => exact ihy fr fr' s s' e hx' σ w a Q hr hf hN hq
  | block id b ih =>
    intro fr fr' s s' e hx σ w a Q hr hf hN hq
    refine wp_block ?_
    have hx' : blockX id (exec (trCode P G N b) call fr s) = .ok e fr' s' := hx
    cases hb : exec (trCode P G N b) call fr s with
    | no => rw [hb] at hx'; cases hx'
    | ok e1 fr1 s1 =>
      rw [hb] at hx'
      refine ih fr fr1 s s1 e1 hb σ w a _ hr hf hN ?_
      cases e1 with
      | normal => cases hx'; exact hq
      | ret => cases hx'; exact hq
      | exit i =>
        have hx2 : Bool.rec (motive := fun _ => X) (.ok (.exit i) fr1 s1) (.ok .normal fr1 s1) (Nat.beq i id) = .ok e fr' s' := hx'
        cases hi : Nat.beq i id with
        | true =>
          rw [hi] at hx2
          cases hx2
          have := beq_iff.1 hi
          subst this
          intro a1 w1 σ1 l1 g1 g2 g3 g4 g5
          simp only [exitOf, Exit.inBlock, if_true]
          exact hq a1 w1 σ1 l1 g1 g2 g3 g4 g5
        | false =>
          rw [hi] at hx2
          cases hx2
          have := beq_false_iff.1 hi
          intro a1 w1 σ1 l1 g1 g2 g3 g4 g5
          simp only [exitOf, Exit.inBlock, if_neg this]
          exact hq a1 w1 σ1 l1 g1 g2 g3 g4 g5
  | loop b ih =>
    intro fr fr' s s' e hx σ w a Q hr hf hN hq
    have hx' : loopX (exec (trCode P G N b)) call 1000000 fr s = .ok e fr' s' := hx
    generalize 1000000 = n at hx'
    refine wp_loop_rounds n ?_
    clear hx
    induction n generalizing fr s σ w a with
    | zero => cases hx'
    | succ n ihn =>
      rw [rounds_succ]
      have hx2 : thenX (exec (trCode P G N b) call fr s) (loopX (exec (trCode P G N b)) call n) = .ok e fr' s' := hx'
      rcases thenX_ok hx2 with ⟨fr1, s1, h1, h2⟩ | ⟨h1, h2⟩
      · refine ih fr fr1 s s1 .normal h1 σ w a _ hr hf hN fun a1 w1 σ1 log1 g1 g2 g3 g4 g5 => ?_
        exact ihn fr1 s1 σ1 w1 a1 g5.rep g3 (by rw [g2]; exact hN) (hq.step g1 g2 g4 g5) h2
      · refine ih fr fr' s s' e h1 σ w a _ hr hf hN ?_
        rw [then_ne h2]; exact hq
  | rangeFunc f ps x y => intro fr fr' s s' e hx; cases hx
  | scope b => intro fr fr' s s' e hx; cases hx
  | goto l => intro fr fr' s s' e hx; cases hx
  | refuse w => intro fr fr' s s' e hx; cases hx
end
end Ax
namespace Ax
open Go
noncomputable section
def initFr : List Pth → List AV → Tr AV → Option (Tr AV)
  | _, [], fr => some fr
  | p :: ps, a :: l, fr => initFr ps l (Tr.set a fr p)
  | [], _ :: _, _ => none
def resOf (fr : Tr AV) (s : St) : IRes → Option AV
  | .t p => some (ev fr (.t p))
  | .c p => (match doLoad s (ev fr (.t p)) with | some (v, _) => some v | none => none)
  | .cN p n => (match doLoadN s n (ev fr (.t p)) with | some (v, _) => some v | none => none)
def resAll (fr : Tr AV) (s : St) : List IRes → Option (List AV)
  | [] => some []
  | r :: l => (match resOf fr s r with | some v => (match resAll fr s l with | some vs => some (v :: vs) | none => none) | none => none)
end
def pack : List AV → AV | [v] => v | l => .tup l
def keepLog (n : Nat) : List (Nat × Nat × Nat) → List (Nat × Nat × Nat)
  | [] => []
  | (b, o, k) :: l => (match Nat.ble n b with | true => keepLog n l | false => (b, o, k) :: keepLog n l)
noncomputable section
def fin (res : List IRes) (n : Nat) (w0 : List (Nat × Nat × Nat)) (x : X) : R := match x with
  | .ok e fr s' => (match e with
    | .exit _ => none
    | _ => (match resAll fr s' res with
      | some vs => (match s' with | ⟨h, nx, w⟩ => some (pack vs, ⟨h, nx, List.append (keepLog n w) w0⟩))
      | none => none))
  | .no => none
def runGo (ps : List Pth) (call : CallT) (body : IC) (res : List IRes) (args : List AV) (s : St) : R :=
  match initFr ps args .nil with
  | some fr => (match s with | ⟨h, n, w0⟩ => fin res n w0 (exec body call fr ⟨h, n, []⟩))
  | none => none
end
section
variable (P : Program) (G : Nat)
def trRes : ResultVar → Option IRes
  | .tmp t => (match Nat.ble 4096 t with | true => none | false => some (.t (pth 12 t)))
  | .cell a t => (match Nat.ble 4096 a, aggO P t, sizeO P t with
    | false, some true, some n => some (.cN (pth 12 a) n)
    | false, some false, some _ => some (.c (pth 12 a))
    | _, _, _ => none)
def trFn (f : Nat) : Option IFn := match P.funcs[f]? with
  | some fn => (match fn.body, mapO (trRes P) fn.results.toList, fn.name == "runtime.NumGoroutine" with
    | some c, some res, false => some (.go (trCode P G fn.ntmps c) res)
    | _, _, _ => none)
  | none => none
end
section
variable {P : Program} {G : Nat} {hole : Nat → Prop} {σ σ' : Sig} {s s' : St} {w w' : World} {fr : Tr AV} {call : CallT} {D : Dom} {log : List (Nat × Nat × Nat)}
theorem Rep.wlog (h : Rep G hole σ s w) (wl : List (Nat × Nat × Nat)) : Rep G hole σ ⟨s.heap, s.next, wl⟩ w := ⟨h.glob, h.le, h.objs, h.base, h.inj, h.holes, h.small, h.okh⟩
theorem keepLog_sub {n : Nat} : ∀ {l : List (Nat × Nat × Nat)} {e : Nat × Nat × Nat}, e ∈ keepLog n l → e ∈ l
  | [], e, h => by simp [keepLog] at h
  | (b, o, k) :: l, e, h => by
    simp only [keepLog] at h
    split at h
    · exact List.mem_cons_of_mem _ (keepLog_sub h)
    · cases h with
      | head => exact List.mem_cons_self ..
      | tail _ h => exact List.mem_cons_of_mem _ (keepLog_sub h)
theorem keepLog_mem {n : Nat} : ∀ {l : List (Nat × Nat × Nat)} {e : Nat × Nat × Nat}, e ∈ l → e.1 < n → e ∈ keepLog n l
  | (b, o, k) :: l, e, h, hn => by
    simp only [keepLog]
    cases h with
    | head =>
      rw [ble_false_iff.2 hn]
      exact List.mem_cons_self ..
    | tail _ h =>
      split
      · exact keepLog_mem h hn
      · exact List.mem_cons_of_mem _ (keepLog_mem h hn)
theorem Post.trim (p : Post G hole σ s w log σ' s' w') (wl wl' : List (Nat × Nat × Nat)) : Post G hole σ ⟨s.heap, s.next, wl⟩ w (keepLog s.next log) σ' ⟨s'.heap, s'.next, wl'⟩ w' := by
  refine ⟨p.ext, p.up, p.le, p.rep.wlog _, ⟨p.kept.os, p.kept.tape, p.kept.output, p.kept.size, fun B hB hall => p.kept.block B hB fun e he hok => hall e (keepLog_mem he hok.1) hok, fun B off hB hall => p.kept.cell B off hB fun e he hok => hall e (keepLog_mem he hok.1) hok⟩, fun b o hb ho => ?_, p.old, fun e he hok => p.live e (keepLog_sub he) hok⟩
  rcases p.new b o hb ho with h | ⟨e, he, hok, h⟩
  · exact .inl h
  · exact .inr ⟨e, keepLog_mem he hok.1, hok, h⟩
theorem resOf_ok (hr : Rep G hole σ s w) {tmps : Array Value} (hf : FR σ ⟨s.next, hole⟩ fr tmps) {r : ResultVar} {i : IRes} {v : AV} (ht : trRes P r = some i) (h : resOf fr s i = some v) :
    ∃ u, ((match r with | .tmp t => pure (tmps.getD t undef) | .cell a t => do loadVar t (← asAddr (tmps.getD a undef)) : Sem Value).run P w) = .ok u w ∧ VR σ ⟨s.next, hole⟩ v u := by
  cases r with
  | tmp t =>
    simp only [trRes] at ht
    split at ht <;> try (cases ht; done)
    rename_i hb
    cases ht
    cases h
    exact ⟨_, rfl, hf t (by have := ble_false_iff.1 hb; omega)⟩
  | cell a t =>
    simp only [trRes] at ht
    split at ht <;> try (cases ht; done)
    · rename_i n hb hagg hsz
      cases ht
      simp only [resOf] at h
      split at h <;> try (cases h; done)
      rename_i v' s2 hl
      cases h
      obtain ⟨d, hd, hda⟩ := aggO_ok hagg
      obtain ⟨ti, hti, hts⟩ := sizeO_ok hsz
      have hv := hf a (by have := ble_false_iff.1 hb; omega)
      obtain ⟨_, B, o, cs, h1, h2, h3, h4⟩ := loadN_ok hr hl hv
      refine ⟨.agg cs.toArray, ?_, h4⟩
      have := run_loadCells_list (P := P) w ⟨B, o, none⟩ cs h3
      rw [h2] at this
      simp only [h1, asAddr, Sem.run_bind, Sem.run_pure, Result.andThen_ok, loadVar, run_isAgg hd, hda, if_true, run_size hti, hts, this]
    · rename_i n hb hagg hsz
      cases ht
      simp only [resOf] at h
      split at h <;> try (cases h; done)
      rename_i v' s2 hl
      cases h
      obtain ⟨d, hd, hda⟩ := aggO_ok hagg
      have hv := hf a (by have := ble_false_iff.1 hb; omega)
      obtain ⟨_, B, o, x, h1, h2, h3⟩ := load_ok hr hl hv
      refine ⟨x, ?_, h3⟩
      simp only [h1, asAddr, Sem.run_bind, Sem.run_pure, Result.andThen_ok, loadVar, run_isAgg hd, hda, Bool.false_eq_true, if_false, Sem.run_ite, run_load, h2]
theorem resAll_ok (hr : Rep G hole σ s w) {tmps : Array Value} (hf : FR σ ⟨s.next, hole⟩ fr tmps) : ∀ {rs : List ResultVar} {is : List IRes} {vs : List AV}, mapO (trRes P) rs = some is → resAll fr s is = some vs →
    ∃ us : List Value, (rs.mapM (fun | .tmp t => pure (tmps.getD t undef) | .cell a t => do loadVar t (← asAddr (tmps.getD a undef)) : ResultVar → Sem Value)).run P w = .ok us w ∧ VRs σ ⟨s.next, hole⟩ vs us
  | [], is, vs, ht, h => by
    simp only [mapO, Option.some.injEq] at ht
    subst ht
    simp only [resAll, Option.some.injEq] at h
    subst h
    exact ⟨[], rfl, by simp [VRs]⟩
  | r :: rs, is, vs, ht, h => by
    simp only [mapO] at ht
    split at ht <;> try (cases ht; done)
    rename_i i hi
    split at ht <;> try (cases ht; done)
    rename_i is' his
    cases ht
    simp only [resAll] at h
    split at h <;> try (cases h; done)
    rename_i v hv
    split at h <;> try (cases h; done)
    rename_i vs' hvs
    cases h
    obtain ⟨u, g1, g2⟩ := resOf_ok hr hf hi hv
    obtain ⟨us, g3, g4⟩ := resAll_ok hr hf his hvs
    refine ⟨u :: us, ?_, VRs_cons'.2 ⟨g2, g4⟩⟩
    rw [List.mapM_cons, Sem.run_bind, g1, Result.andThen_ok, Sem.run_bind, g3, Result.andThen_ok, Sem.run_pure]
theorem results_ok (hr : Rep G hole σ s w) {tmps : Array Value} (hf : FR σ ⟨s.next, hole⟩ fr tmps) {fn : Func} {is : List IRes} {vs : List AV} (ht : mapO (trRes P) fn.results.toList = some is) (h : resAll fr s is = some vs) :
    ∃ u, (results fn tmps).run P w = .ok u w ∧ VR σ ⟨s.next, hole⟩ (pack vs) u := by
  obtain ⟨us, g1, g2⟩ := resAll_ok hr hf ht h
  refine ⟨if h : us.toArray.size = 1 then us.toArray[0] else .tuple us.toArray, ?_, ?_⟩
  · unfold results
    rw [Sem.run_bind, Array.mapM_eq_mapM_toList]
    have : (List.toArray <$> fn.results.toList.mapM (fun | .tmp t => pure (tmps.getD t undef) | .cell a t => do loadVar t (← asAddr (tmps.getD a undef)) : ResultVar → Sem Value)).run P w = .ok us.toArray w := by
      rw [map_eq_pure_bind, Sem.run_bind, g1]; rfl
    exact (congrArg (fun r => Result.andThen r (fun (a : Array Value) w' => Sem.run P (pure (if h : a.size = 1 then a[0] else Value.tuple a)) w')) this).trans rfl
  · have tupc : ∀ l : List AV, l.length ≠ 1 → VRs σ ⟨s.next, hole⟩ l us → pack l = .tup l → VR σ ⟨s.next, hole⟩ (pack l) (if h : us.toArray.size = 1 then us.toArray[0] else .tuple us.toArray) := by
      intro l hl hv hp
      have : ¬ us.toArray.size = 1 := by have := VRs_len hv; simp; omega
      rw [dif_neg this, hp]
      simp only [VR]
      exact ⟨us.toArray, rfl, by simpa using hv⟩
    match vs, g2 with
    | [], g2 => exact tupc [] (by simp) g2 rfl
    | [v], g2 =>
      obtain ⟨u, us', rfl, g3, g4⟩ := VRs_cons.1 g2
      rw [VRs_nil] at g4
      subst g4
      simpa [pack] using g3
    | a :: b :: l, g2 => exact tupc _ (by simp) g2 rfl
theorem initFr_ok : ∀ (ps : List Pth) (n : Nat) (args : List AV) (us : List Value) (fr fr1 : Tr AV) (tmps : Array Value), (∀ (j : Nat) (p : Pth), ps[j]? = some p → p = pth 12 (n + j) ∧ n + j < 4096) → initFr ps args fr = some fr1 → VRs σ D args us →
    n + us.length ≤ tmps.size → (∀ t, t < 2 ^ 12 → (t < n → VR σ D (ev fr (.t (pth 12 t))) (tmps.getD t undef)) ∧ (n ≤ t → fr.get (pth 12 t) = none)) → (∀ (j : Nat) (u : Value), us[j]? = some u → tmps.getD (n + j) undef = u) → (∀ t, n + us.length ≤ t → tmps.getD t undef = undef) → FR σ D fr1 tmps
  | ps, n, [], us, fr, fr1, tmps, _, h, hv, _, hfr, _, hrest => by
    rw [VRs_nil] at hv
    subst hv
    have : fr1 = fr := by cases ps <;> (simp only [initFr, Option.some.injEq] at h; exact h.symm)
    subst this
    intro t ht
    by_cases hlt : t < n
    · exact (hfr t ht).1 hlt
    · have h1 := (hfr t ht).2 (by omega)
      rw [hrest t (by simp; omega)]
      simp only [ev, h1, unit, VR, undef]
      exact ⟨#[], rfl, by simp [VRs]⟩
  | [], n, a :: l, us, fr, fr1, tmps, _, h, _, _, _, _, _ => by simp [initFr] at h
  | p :: ps, n, a :: l, us, fr, fr1, tmps, hps, h, hv, hsz, hfr, hus, hrest => by
    obtain ⟨u, us', rfl, h1, h2⟩ := VRs_cons.1 hv
    simp only [initFr] at h
    obtain ⟨hp, hlt⟩ := hps 0 p rfl
    simp only [Nat.add_zero] at hp hlt
    subst hp
    refine initFr_ok ps (n + 1) l us' _ fr1 tmps (fun j q hq => ?_) h h2 (by simp at hsz; omega) (fun t ht => ?_) (fun j x hx => ?_) (fun t ht => hrest t (by simp; omega))
    · obtain ⟨g1, g2⟩ := hps (j + 1) q (by simpa using hq)
      rw [show n + 1 + j = n + (j + 1) by omega]; exact ⟨g1, g2⟩
    · constructor
      · intro htn
        by_cases e : t = n
        · subst e
          simp only [ev, Tr.get_set, if_true]
          rw [show tmps.getD t undef = u from hus 0 u rfl]
          exact h1
        · simp only [ev, Tr.get_set]
          rw [if_neg (fun hh => e (pth_inj 12 t n ht (by omega) hh))]
          exact (hfr t ht).1 (by omega)
      · intro htn
        rw [Tr.get_set, if_neg (fun hh => by have := pth_inj 12 t n ht (by omega) hh; omega)]
        exact (hfr t ht).2 (by omega)
    · have := hus (j + 1) x (by simpa using hx)
      rw [show n + 1 + j = n + (j + 1) by omega]; exact this
end
end Ax
namespace Ax
open Go
def idxOf (c : Nat) : Nat → List Nat → Option Nat
  | _, [] => none
  | i, a :: l => (match Nat.beq a c with | true => some i | false => idxOf c (Nat.add i 1) l)
def ix (o : Option Nat) : AV := match o with | some n => .int .i64 (.ofNat n) | none => .int .i64 (.negSucc 0)
noncomputable section
def extern (k : Nat) (args : List AV) (s : St) : R := match k with
  | 0 => (match args with | [.str l, .int .u8 (.ofNat c)] => (match Nat.ble 256 c with | true => none | false => some (ix (idxOf c 0 l), s)) | _ => none)
  | 1 => none
  | 2 => (match args with | [v] => some (v, s) | _ => none)
  | t + 3 => (match args with | [.int .i64 (.ofNat n)] => (match Nat.ble n big with | true => snew s (.cells t (lrep n [.any])) (.slc s.next 0 n (.ge n 1)) | false => none) | _ => none)
def callW (facts : CallT) (tbl : Nat → Option IFn) (ps : List Pth) (rec : CallT) (f : Nat) (args : List AV) (s : St) : R :=
  match facts f args s with
  | some r => some r
  | none => (match tbl f with
    | some i => (match i with
      | .go body res => runGo ps rec body res args s
      | .ext k => extern k args s
      | .no => none)
    | none => none)
def callN (facts : CallT) (tbl : Nat → Option IFn) (ps : List Pth) (n : Nat) : CallT := Nat.rec (motive := fun _ => CallT) (fun _ _ _ => none) (fun _ ih => callW facts tbl ps ih) n
end
/-- what is asked of a function without a body -/
def ExtAt (P : Program) (k : Nat) (f : FuncId) : Prop := match k with
  | 0 => ∀ us w, (callFunc f us).run P w = ((Extern.BytealgIndexByte.indexByte us).run P w).andThen fun v w => .ok (.value v) w
  | 1 => False
  | 2 => ∀ us w, (callFunc f us).run P w = ((Extern.AbiNoEscape.same us).run P w).andThen fun v w => .ok (.value v) w
  | t + 3 => ∃ ps st, P.underlying st = some (.slice t) ∧ ∀ us w, (callFunc f us).run P w = ((Extern.BytealgMakeNoZero.makeNoZero ps #[st] us).run P w).andThen fun v w => .ok (.value v) w
def TblOk (P : Program) (G : Nat) (tbl : Nat → Option IFn) : Prop := ∀ f i, tbl f = some i → match i with
  | .go body res => trFn P G f = some (.go body res)
  | .ext k => ExtAt P k f
  | .no => True
def PathsOk (ps : List Pth) : Prop := ∀ (j : Nat) (p : Pth), ps[j]? = some p → p = pth 12 j ∧ j < 4096
section
variable {P : Program} {G : Nat} {call facts : CallT} {tbl : Nat → Option IFn} {ps : List Pth}
theorem goes_ok (hm : P.follows .mixedOrders = true) (hps : PathsOk ps) (hc : CallOk P G call) {f : Nat} {body : IC} {res : List IRes} (ht : trFn P G f = some (.go body res)) {args : List AV} {s s' : St} {v : AV} (h : runGo ps call body res args s = some (v, s'))
    {hole : Nat → Prop} {σ : Sig} {w : World} {us : Array Value} (hr : Rep G hole σ s w) (hg : ∀ g, g < G → ¬ hole g) (hu : VRs σ ⟨s.next, hole⟩ args us.toList) : Enters P f us w (After G hole σ s w v s') := by
  unfold trFn at ht
  split at ht <;> try (cases ht; done)
  rename_i fn hfn
  split at ht <;> try (cases ht; done)
  rename_i c rs hbody hres hname
  cases ht
  refine .inl ⟨?_, ?_⟩
  · simp only [callFunc, Sem.run_bind, run_program, Result.andThen_ok, hfn, hname, Bool.false_eq_true, if_false, hbody, Option.isNone_some, Sem.run_pure]
  · refine calls_of_wp hfn hbody ?_
    unfold runGo at h
    split at h <;> try (cases h; done)
    rename_i fr hfr
    cases s with
    | mk hh n w0 =>
    simp only at h
    unfold fin at h
    split at h <;> try (cases h; done)
    rename_i e fr' s1 hx
    have key : ∀ (hne : ∀ id, e ≠ .exit id) (vs : List AV), resAll fr' s1 res = some vs → v = pack vs → s' = ⟨s1.heap, s1.next, List.append (keepLog n s1.wlog) w0⟩ → c.wp P (bodyPost P fn (fun e w' => ∃ u, e = .returned u ∧ After G hole σ ⟨hh, n, w0⟩ w v s' u w')) { tmps := us ++ Array.replicate (fn.ntmps - us.size) undef, defers := [] } w := by
      intro hne vs hvs hv hs'
      have hr0 := hr.wlog []
      have hlen := VRs_len hu
      have husz : us.toList.length = us.size := by simp
      have hinit : FR σ ⟨n, hole⟩ fr (us ++ Array.replicate (fn.ntmps - us.size) undef) := by
        refine initFr_ok ps 0 args us.toList .nil fr _ (fun j p hp => by rw [Nat.zero_add]; exact hps j p hp) hfr hu (by simp) (fun t ht => ⟨fun h => absurd h (Nat.not_lt_zero _), fun _ => Tr.get_nil _⟩) (fun j u hj => ?_) (fun t ht => ?_)
        · rw [Nat.zero_add]
          have hj' : us[j]? = some u := by simpa using hj
          have hlt := (Array.getElem?_eq_some_iff.1 hj').1
          rw [Array.getD_eq_getD_getElem?, Array.getElem?_append_left hlt, hj']; rfl
        · simp only [Nat.zero_add, husz] at ht
          rw [Array.getD_eq_getD_getElem?, Array.getElem?_append_right ht, Array.getElem?_replicate]
          split <;> rfl
      refine code_ok (N := fn.ntmps) hm hc hg c fr fr' ⟨hh, n, []⟩ s1 e hx σ w _ _ hr0 hinit (by simp; omega) ?_
      intro a1 w1 σ1 log g1 g2 g3 g4 g5
      obtain ⟨u, q1, q2⟩ := results_ok g5.rep g3 hres hvs
      have hlog : s1.wlog = log := by simpa using g4
      have hpost := g5.trim w0 (List.append (keepLog n log) w0)
      have hfin : a1.defers = [] ∧ ∃ v', (results fn a1.tmps).run P w1 = .ok v' w1 ∧ ∃ u', Ending.returned v' = .returned u' ∧ After G hole σ ⟨hh, n, w0⟩ w v s' u' w1 := by
        refine ⟨g1, u, q1, u, rfl, σ1, keepLog n log, ?_, ?_, ?_⟩
        · rw [hv, hs']; exact q2
        · rw [hs', hlog]; rfl
        · rw [hs', hlog]; exact hpost
      cases e with
      | normal => exact hfin
      | ret => exact hfin
      | exit id => exact absurd rfl (hne id)
    cases e with
    | exit id => cases h
    | normal =>
      simp only at h
      split at h <;> try (cases h; done)
      rename_i vs hvs
      cases h
      exact key (fun id => by simp) vs hvs rfl rfl
    | ret =>
      simp only at h
      split at h <;> try (cases h; done)
      rename_i vs hvs
      cases h
      exact key (fun id => by simp) vs hvs rfl rfl
end
end Ax
namespace Ax
open Go
section
variable {P : Program} {G : Nat} {hole : Nat → Prop} {σ : Sig} {s s' : St} {w : World} {v : AV} {call facts : CallT} {tbl : Nat → Option IFn} {ps : List Pth} {D : Dom}
theorem VRs_one {a : AV} {us : Array Value} (h : VRs σ D [a] us.toList) : ∃ u, us = #[u] ∧ VR σ D a u := by
  obtain ⟨u, us', h1, h2, h3⟩ := VRs_cons.1 h
  rw [VRs_nil] at h3
  subst h3
  exact ⟨u, Array.ext' h1, h2⟩
theorem VRs_two {a b : AV} {us : Array Value} (h : VRs σ D [a, b] us.toList) : ∃ u x, us = #[u, x] ∧ VR σ D a u ∧ VR σ D b x := by
  obtain ⟨u, us', h1, h2, h3⟩ := VRs_cons.1 h
  obtain ⟨x, us'', h4, h5, h6⟩ := VRs_cons.1 h3
  rw [VRs_nil] at h6
  subst h6 h4
  exact ⟨u, x, Array.ext' h1, h2, h5⟩
theorem find_congr {α : Type} {p q : α → Bool} : ∀ {l : List α}, (∀ x ∈ l, p x = q x) → l.find? p = l.find? q
  | [], _ => rfl
  | a :: l, h => by
    simp only [List.find?_cons, h a (List.mem_cons_self ..)]
    rw [find_congr (l := l) fun x hx => h x (List.mem_cons_of_mem _ hx)]
theorem idxOf_ok (c : Nat) : ∀ (l : List Nat) (i : Nat), idxOf c i l = ((List.range' i l.length).find? fun j => l[j - i]? == some c)
  | [], i => by simp [idxOf]
  | a :: l, i => by
    simp only [idxOf, List.length_cons, List.range'_succ, List.find?_cons, Nat.sub_self, List.getElem?_cons_zero]
    by_cases h : a = c
    · subst h; simp [beq_refl']
    · rw [beq_of_ne h]
      have : (some a == some c) = false := by simp [h]
      rw [this]
      simp only
      rw [show Nat.add i 1 = i + 1 from rfl, idxOf_ok c l (i + 1)]
      apply find_congr
      intro j hj
      rw [List.mem_range'_1] at hj
      rw [show j - i = (j - (i + 1)) + 1 by omega, List.getElem?_cons_succ]
theorem digits_cells : ∀ (n t : Nat) (acc : Array Value), (∀ u ∈ acc.toList, u.oneCell' = true ∧ u.cells = #[u]) → ∀ u ∈ (Extern.BytealgMakeNoZero.digits n t acc).toList, u.oneCell' = true ∧ u.cells = #[u]
  | 0, t, acc, h => h
  | n + 1, t, acc, h => digits_cells n (t / 256) _ fun u hu => by
    rw [Array.toList_push, List.mem_append] at hu
    rcases hu with hu | hu
    · exact h u hu
    · simp at hu; subst hu; exact ⟨rfl, rfl⟩
theorem VRs_any : ∀ (us : List Value), (∀ u ∈ us, u.oneCell' = true ∧ u.cells = #[u]) → VRs σ D (lrep us.length [.any]) us
  | [], _ => by simp [lrep_zero, VRs]
  | u :: us, h => by
    rw [List.length_cons, lrep_succ]
    refine VRs_cons'.2 ⟨?_, VRs_any us fun x hx => h x (List.mem_cons_of_mem _ hx)⟩
    simp only [VR]; exact h u (List.mem_cons_self ..)
theorem After.new {ty : TypeId} {l : List AV} {us pad : List Value} {v₀ : AV} {u : Value} {w' : World} (hr : Rep G hole σ s w) (h : snew s (.cells ty l) v₀ = some (v, s')) (hu : VRs σ ⟨s.next, hole⟩ l us) (hheap : w'.heap = w.heap.push (.cells (us ++ pad).toArray ty (0, 0))) (hos : w'.os = w.os) (htp : w'.tape = w.tape) (hout : w'.output = w.output)
    (hv : VR (σ.at s.next w.heap.size 0 (us.length + pad.length)) ⟨s.next + 1, hole⟩ v₀ u) : After G hole σ s w v s' u w' := by
  obtain ⟨rfl, h2, h3, h4⟩ := new_cells (f₀ := 0) (f₁ := 0) hr h hu hheap (by omega) hos htp hout
  exact ⟨_, [], by rw [h3]; exact hv, by simpa using h2, h4⟩
theorem ext0_ok {f : FuncId} {args : List AV} (ht : ExtAt P 0 f) (h : extern 0 args s = some (v, s')) {us : Array Value} (hr : Rep G hole σ s w) (hu : VRs σ ⟨s.next, hole⟩ args us.toList) : Enters P f us w (After G hole σ s w v s') := by
  simp only [extern] at h
  split at h <;> try (cases h; done)
  rename_i l c
  split at h <;> try (cases h; done)
  rename_i hc
  have hlt := ble_false_iff.1 hc
  simp only [Option.some.injEq, Prod.mk.injEq] at h
  obtain ⟨rfl, rfl⟩ := h
  obtain ⟨u, x, rfl, h1, h2⟩ := VRs_two hu
  simp only [VR] at h1
  obtain ⟨b, rfl, rfl⟩ := h1
  have := VR_int.1 h2
  subst this
  have hbytes : (b.data.toList.map UInt8.toNat).length = b.size := by simp
  have hget : ∀ (j : Nat), j < b.size → ((b.data.toList.map UInt8.toNat)[j]? == some c) = (b[j]! == (Int.ofNat c).toNat.toUInt8) := by
    intro j hj
    have hj' : j < b.data.size := hj
    have e1 : (b.data.toList.map UInt8.toNat)[j]? = some (b.data[j]).toNat := by rw [List.getElem?_map, Array.getElem?_toList, Array.getElem?_eq_getElem hj']; rfl
    have e2 : b[j]! = b.data[j] := by rw [getElem!_pos b j hj]; rfl
    rw [e1, e2, Bool.eq_iff_iff]
    simp only [beq_iff_eq, Option.some.injEq]
    constructor
    · intro h; subst h; simp
    · intro h; rw [h]; show (UInt8.ofNat c).toNat = c; simp [Nat.mod_eq_of_lt hlt]
  have hfind : idxOf c 0 (b.data.toList.map UInt8.toNat) = (List.range b.size).find? fun i => b[i]! == (Int.ofNat c).toNat.toUInt8 := by
    rw [idxOf_ok, hbytes, ← List.range_eq_range']
    apply find_congr
    intro j hj
    rw [Nat.sub_zero]
    exact hget j (List.mem_range.1 hj)
  have hrun : (Extern.BytealgIndexByte.indexByte #[.string b, .int .u8 (Int.ofNat c)]).run P w = .ok (match idxOf c 0 (b.data.toList.map UInt8.toNat) with | some i => goInt i | none => goInt (-1)) w := by
    have e : Extern.BytealgIndexByte.indexByte #[.string b, .int .u8 (Int.ofNat c)] = (do
      let b ← Extern.Bytes.bytesOf (.string b)
      let c ← Extern.Bytes.asByte (.int .u8 (Int.ofNat c))
      match (List.range b.size).find? fun i => b[i]! == c with
      | some i => pure (goInt i)
      | none => pure (goInt (-1))) := rfl
    rw [e]
    simp only [Extern.Bytes.bytesOf, Extern.Bytes.asByte, Sem.run_bind, Sem.run_pure, Result.andThen_ok]
    rw [← hfind]
    cases idxOf c 0 (b.data.toList.map UInt8.toNat) <;> rfl
  refine .inr ⟨_, w, by rw [ht, hrun]; rfl, After.same hr ?_⟩
  cases idxOf c 0 (b.data.toList.map UInt8.toNat) with
  | none => simp only [ix, VR]; rfl
  | some i => simp only [ix, VR]; rfl
theorem ext2_ok {f : FuncId} {args : List AV} (ht : ExtAt P 2 f) (h : extern 2 args s = some (v, s')) {us : Array Value} (hr : Rep G hole σ s w) (hu : VRs σ ⟨s.next, hole⟩ args us.toList) : Enters P f us w (After G hole σ s w v s') := by
  simp only [extern] at h
  split at h <;> try (cases h; done)
  simp only [Option.some.injEq, Prod.mk.injEq] at h
  obtain ⟨rfl, rfl⟩ := h
  obtain ⟨u, rfl, h1⟩ := VRs_one hu
  exact .inr ⟨u, w, by rw [ht]; rfl, After.same hr h1⟩
theorem run_makeNoZero (ps : Array TypeId) (t e : TypeId) (ht : P.underlying t = some (.slice e)) (n : Nat) (hn : n ≤ 281474976710656) :
    ∃ (m d : Nat), n ≤ m ∧ (Extern.BytealgMakeNoZero.makeNoZero ps #[t] #[.int .i64 n]).run P w = .ok (.slice (some ⟨w.heap.size, 0, none⟩) n m) (w.drew.drew.alloc (.cells (Extern.BytealgMakeNoZero.digits m d #[]) e)) := by
  have hdef : Extern.BytealgMakeNoZero.makeNoZero ps #[t] #[.int .i64 n] =
      (do
        let .slice elem ← underlying t | stuck "bytealg.MakeNoZero: slice type expected"
        if (n : Int) < 0 || (n : Int) > 2 ^ 48 then runtimePanic (.error "makeslice: len out of range")
        let cap ← choose (.appendCap (n : Int).toNat 0 elem)
        askRoom cap
        let bytes ← choose (.extern "internal/bytealg.MakeNoZero.bytes" 0)
        let a ← newRow elem (Extern.BytealgMakeNoZero.digits cap bytes #[])
        pure (.slice (some a) (n : Int).toNat cap)) := rfl
  refine ⟨grownCap w n 0 e, (Question.extern "internal/bytealg.MakeNoZero.bytes" 0).cut (w.tape (w.drawn + 1) (.extern "internal/bytealg.MakeNoZero.bytes" 0)), by simpa using grownCap_ge w n 0 e, ?_⟩
  rw [hdef]
  have h1 : ¬ (n : Int) < 0 := by omega
  have h2 : ¬ (281474976710656 : Int) < (n : Int) := by omega
  simp [run_underlying ht, h1, h2, Question.forced, newRow, grownCap]
theorem ext3_ok {t : Nat} {f : FuncId} {args : List AV} (ht : ExtAt P (t + 3) f) (h : extern (t + 3) args s = some (v, s')) {us : Array Value} (hr : Rep G hole σ s w) (hu : VRs σ ⟨s.next, hole⟩ args us.toList) : Enters P f us w (After G hole σ s w v s') := by
  simp only [extern] at h
  split at h <;> try (cases h; done)
  rename_i n
  split at h <;> try (cases h; done)
  rename_i hb
  have hbig := ble_iff.1 hb
  obtain ⟨u, rfl, h1⟩ := VRs_one hu
  have := VR_int.1 h1
  subst this
  obtain ⟨pts, st, hst, hrun⟩ := ht
  have hn : n ≤ 281474976710656 := by unfold big at hbig; omega
  obtain ⟨m, d, g1, g2⟩ := run_makeNoZero (P := P) (w := w) pts st t hst n hn
  have hsz : (Extern.BytealgMakeNoZero.digits m d #[]).size = m := by rw [Lib.size_digits]; simp
  have hcells := digits_cells m d #[] (by simp)
  have hall := VRs_any (σ := σ) (D := ⟨s.next, hole⟩) ((Extern.BytealgMakeNoZero.digits m d #[]).toList.take n) (fun u hu => hcells u (List.mem_of_mem_take hu))
  have hlen : ((Extern.BytealgMakeNoZero.digits m d #[]).toList.take n).length = n := by simp [hsz]; omega
  rw [hlen] at hall
  refine .inr ⟨.slice (some ⟨w.heap.size, 0, none⟩) n m, w.drew.drew.alloc (.cells (Extern.BytealgMakeNoZero.digits m d #[]) t), by rw [hrun]; exact (congrArg (fun r => Result.andThen r (fun v w => Result.ok (Next.value v) w)) g2).trans rfl, After.new (pad := (Extern.BytealgMakeNoZero.digits m d #[]).toList.drop n) hr h hall ?_ rfl rfl rfl ?_⟩
  · show w.heap.push _ = _
    rw [List.take_append_drop, Array.toArray_toList]
  · have hh : ¬ hole s.next := fun h => Nat.lt_irrefl _ (hr.holes _ h)
    refine slc_newG hh g1 ?_
    rw [hlen, List.length_drop, Array.length_toList, hsz]; omega
theorem extern_ok {k : Nat} {f : FuncId} {args : List AV} (ht : ExtAt P k f) (h : extern k args s = some (v, s')) {us : Array Value} (hr : Rep G hole σ s w) (hu : VRs σ ⟨s.next, hole⟩ args us.toList) : Enters P f us w (After G hole σ s w v s') := by
  rcases k with _ | _ | _ | t
  · exact ext0_ok ht h hr hu
  · exact ht.elim
  · exact ext2_ok ht h hr hu
  · exact ext3_ok ht h hr hu
theorem callW_ok (hm : P.follows .mixedOrders = true) (hps : PathsOk ps) (hfacts : CallOk P G facts) (htbl : TblOk P G tbl) (hc : CallOk P G call) : CallOk P G (callW facts tbl ps call) := by
  intro f args s v s' h hole σ w us hr hg hu
  unfold callW at h
  split at h
  · rename_i r hr'
    cases h
    exact hfacts f args s v s' hr' hole σ w us hr hg hu
  · split at h <;> try (cases h; done)
    rename_i i hi
    have ht := htbl f i hi
    split at h
    · exact goes_ok hm hps hc ht h hr hg hu
    · exact extern_ok ht h hr hu
    · cases h
/-- WHAT THE ABSTRACT RUN SAYS. -/
theorem callN_ok (hm : P.follows .mixedOrders = true) (hps : PathsOk ps) (hfacts : CallOk P G facts) (htbl : TblOk P G tbl) : ∀ n, CallOk P G (callN facts tbl ps n)
  | 0 => fun _ _ _ _ _ h => by cases h
  | n + 1 => callW_ok hm hps hfacts htbl (callN_ok hm hps hfacts htbl n)
theorem noFacts : CallOk P G (fun _ _ _ => none) := fun _ _ _ _ _ h => by cases h
end
end Ax
namespace Ax
open Go Go.ChangeShapes Go.WideShapes Go.ChangeAt
def AllT {α : Type} (g : Nat → α → Prop) : (Nat → Nat) → Tr α → Prop
  | _, .nil => True
  | φ, .node v l r => (∀ x, v = some x → g (φ 0) x) ∧ AllT g (fun n => φ (2 * n + 1)) l ∧ AllT g (fun n => φ (2 * n + 2)) r
theorem allT_get {α : Type} {g : Nat → α → Prop} : ∀ {t : Tr α} {φ : Nat → Nat} {n : Nat} {x : α}, AllT g φ t → hget t n = some x → g (φ n) x
  | .nil, φ, n, x, _, h => by rw [hget_nil] at h; cases h
  | .node v l r, φ, n, x, ha, h => by
    rw [hget_node] at h
    obtain ⟨h1, h2, h3⟩ := ha
    by_cases h0 : n = 0
    · subst h0; rw [if_pos rfl] at h; exact h1 x h
    · rw [if_neg h0] at h
      by_cases ho : n % 2 = 1
      · rw [if_pos ho] at h
        have := allT_get h2 h
        rwa [show 2 * (n / 2) + 1 = n by omega] at this
      · rw [if_neg ho] at h
        have := allT_get h3 h
        rwa [show 2 * (n / 2 - 1) + 2 = n by omega] at this
theorem paths_ok {n : Nat} {ps : List Pth} (h : ps = (List.range n).map (pth 12)) (hn : n ≤ 4096) : PathsOk ps := by
  subst h
  intro j p hj
  rw [List.getElem?_map] at hj
  by_cases hlt : j < n
  · rw [List.getElem?_range hlt] at hj
    cases hj
    exact ⟨rfl, by omega⟩
  · rw [List.getElem?_eq_none (by simp; omega)] at hj
    cases hj
theorem nil_no {b : Nat} {o : AObj} (h : hget .nil b = some o) : False := by rw [hget_nil] at h; cases h
theorem rep_none (w : World) : Rep 0 (fun _ => False) (fun _ => (0, 0, 0)) ⟨.nil, 0, []⟩ w :=
  ⟨fun g hg => absurd hg (Nat.not_lt_zero _), Nat.le_refl _, fun b o h => (nil_no h).elim, fun b o h => (nil_no h).elim, fun b b' o o' h => (nil_no h).elim, fun b h => h.elim, Nat.zero_le _, fun b o h => (nil_no h).elim⟩
/-- at most new blocks -/
def Grew (w w' : World) : Prop := w'.os = w.os ∧ w'.output = w.output ∧ w.heap.size ≤ w'.heap.size ∧ ∀ i, i < w.heap.size → w'.heap[i]? = w.heap[i]?
theorem Grew.frozen {w w' : World} (h : Grew w w') (a : Addr) (ha : a.block < w.heap.size) : w'.frozen? a = w.frozen? a := by
  simp only [World.frozen?, h.2.2.2 a.block ha]
theorem Grew.frame {w w' : World} (h : Grew w w') (may : MemPlace → Prop) : w.keptBut w' may := by
  refine ⟨h.1, h.2.1, fun i hi => ?_⟩
  rw [h.2.2.2 i hi]
  split
  · rename_i c t f c' t' f' h1 h2
    rw [h1] at h2; cases h2
    exact ⟨rfl, rfl, rfl, fun _ _ => rfl⟩
  · rename_i e k e' k' h1 h2
    rw [h1] at h2; cases h2
    exact .inr ⟨rfl, rfl⟩
  · rfl
/-- it answers true, and has written nothing that stood -/
def okTrue (r : R) : Bool := match r with | some (v, s) => (match v with | .bool b => (match s.wlog with | [] => b | _ :: _ => false) | _ => false) | none => false
theorem okTrue_ok {r : R} (h : okTrue r = true) : ∃ s, r = some (.bool true, s) ∧ s.wlog = [] := by
  unfold okTrue at h
  split at h <;> try (cases h; done)
  split at h <;> try (cases h; done)
  split at h <;> try (cases h; done)
  subst h
  exact ⟨_, rfl, by assumption⟩
theorem closed_ok {P : Program} {G : Nat} {call : CallT} (hc : CallOk P G call) {f : FuncId} {s : St} (hs : s.wlog = []) (h : okTrue (call f [] s) = true) {σ : Sig} {w : World} (hr : Rep G (fun _ => False) σ s w) {body : IC} {res : List IRes} (ht : trFn P G f = some (.go body res)) :
    Calls P f #[] w fun e w' => e = .returned (.bool true) ∧ Grew w w' := by
  obtain ⟨s', h1, h2⟩ := okTrue_ok h
  rcases hc f [] s _ s' h1 (fun _ => False) σ w #[] hr (fun _ _ h => h) (by simp [VRs]) with ⟨_, h3⟩ | ⟨u, w', h3, _⟩
  · refine Calls.mono h3 fun e w' ⟨u, he, σ', log, g1, g2, g3⟩ => ?_
    have := VR_bool.1 g1
    subst this
    refine ⟨he, g3.kept.os, g3.kept.output, g3.kept.size, fun i hi => g3.kept.block i hi fun e' he' => ?_⟩
    rw [h2, hs] at g2
    simp at g2
    subst g2; cases he'
  · exfalso
    unfold trFn at ht
    split at ht <;> try (cases ht; done)
    rename_i fn hfn
    split at ht <;> try (cases ht; done)
    rename_i c rs hbody hres hname
    simp only [callFunc, Sem.run_bind, run_program, Result.andThen_ok, hfn, hname, Bool.false_eq_true, if_false, hbody, Option.isNone_some, Sem.run_pure] at h3
    cases h3
/-- the same, of the row's ending -/
theorem post_of_grew {H : Type} {enc : TypeId × Value → H} {P : Program} {f : Func} {s : ChangeSpec} {apart fresh handsOn again : Bool} {W W' : World} {args : Array Value} {v : Value} {ds gs : List (DataW H)} {before pa pv : List MemPlace}
    (hW : DataW.Whole enc P f.params.toList s.vars apart W args.toList ds gs before)
    (hres : ∀ (b : Nat) (sp : Nat → Bool) (hd : Bool), DataW.TrodAll enc P W' b sp hd f.resultTypes.toList (v.resultList f.resultTypes.size) (s.fn H (ds ++ gs)).results [])
    (hargs : ∀ sp : Nat → Bool, (∀ p ∈ before, sp p.block = true) → DataW.TrodAll enc P W' 0 sp true f.params.toList args.toList (s.fn H (ds ++ gs)).args pa)
    (hvars : ∀ sp : Nat → Bool, (∀ p ∈ before, sp p.block = true) → DataW.TrodVars enc P W' sp s.vars (s.fn H (ds ++ gs)).vars pv)
    (hps : before = pa ++ pv) (hk : W.keptBut W' (· ∈ before)) (hfz : ∀ a : Addr, a.block < W.heap.size → W'.frozen? a = W.frozen? a)
    (hok : ∀ (j : Nat) (t : TypeId) (r : Value), f.resultTypes[j]? = some t → (v.resultList f.resultTypes.size)[j]? = some r → Value.okWide P W' .any 0 t r) :
    s.post enc P f apart fresh handsOn again W args v W' := by
  have hold : ∀ p ∈ before, (fun b => decide (b < W.heap.size)) p.block = true := fun p hp => by simpa using hW.lt p hp
  have hlt := hW.lt
  refine ⟨ds, gs, before, [], pa, pv, hW, hres _ _ _, hargs _ hold, hvars _ hold, World.keptBut_mono (fun p hp => ⟨hp, ?_⟩) hk, fun _ => ?_⟩
  · rw [hps, List.mem_append] at hp
    exact Or.inr hp
  · obtain ⟨_, _, _, _, _, hz, hn⟩ := hW
    refine ⟨hok, _, _, ([] ++ pa) ++ pv, ⟨[] ++ pa, pv, trodAll_append (hargs _ (fun _ _ => rfl)) (hres _ _ _), hvars _ (fun _ _ => rfl), rfl, ?_, ?_⟩, ?_⟩
    · intro b off hp
      have hp' : MemPlace.cell b off ∈ before := by rw [hps]; simpa using hp
      rw [hfz _ (hlt _ hp')]
      exact hz b off hp'
    · intro ha
      have := hn ha
      rw [hps] at this
      simpa using this
    · intro p hp _
      rw [hps]
      simpa using hp
end Ax
