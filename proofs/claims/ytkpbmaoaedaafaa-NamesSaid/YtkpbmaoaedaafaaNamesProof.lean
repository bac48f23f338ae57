/- The names of package api stand for the document's numbers: the law's function answers true, whatever the input; it takes none, and leaves all memory as it was. No condition. The walk is a run of the function on abstract values, carried out by the kernel; that such a run tells of the model's is proved in the texts that this one imports. -/
import Derived.Test.YtkpbmaoaedaafaaRows
import Derived.WalkKit
import Derived.ProofKit
import Derived.OpenShut
import Derived.Test.YtkpbmaoaedaafaaT
namespace Go.Proofs.Ytkpbmaoaedaafaa.names
open Go.ChangeShapes Go.WideShapes Go.ChangeAt Go.RowKit
set_option linter.unusedVariables false      -- a walk need not use every 'w<i>' (that an integer argument fits its kind)

theorem own : ownKnob Try.prog.godebug = none := by kernel_rfl

theorem tr3 : Ax.trFn Try.prog 0 3 = some Ax.i3 := by kernel_rfl
theorem tbl : Ax.TblOk Try.prog 0 (Ax.hget Ax.tblT) := by
  intro f i h
  have hall : Ax.AllT (fun f i => match i with | .go body res => Ax.trFn Try.prog 0 f = some (.go body res) | .ext k => Ax.ExtAt Try.prog k f | .no => True) id Ax.tblT :=
    ⟨fun x hx => (by cases hx), ⟨fun x hx => (by cases hx), ⟨fun x hx => (by cases hx; exact tr3), trivial, trivial⟩, trivial⟩, trivial⟩
  exact Ax.allT_get hall h
theorem paths : Ax.PathsOk Ax.argPs := Ax.paths_ok (n := 16) rfl (by decide)
theorem mixed : Try.prog.follows .mixedOrders = true := by kernel_rfl
theorem run3 : Ax.okTrue (Ax.callN (fun _ _ _ => none) (Ax.hget Ax.tblT) Ax.argPs 2 3 [] ⟨.nil, 0, []⟩) = true := by kernel_rfl
theorem walk (w : World) : Calls Try.prog 3 #[] w fun e w' => e = .returned (.bool true) ∧ Ax.Grew w w' :=
  Ax.closed_ok (Ax.callN_ok mixed paths Ax.noFacts tbl 2) rfl run3 (Ax.rep_none w) tr3

/-! ### THE ROW's STEP: WRITTEN OUT: LEAVE IT -/
set_option maxRecDepth 100000 in
theorem lifted (os : Os) (started : os.Started) (H : Type) (enc : TypeId × Value → H) :
    ReturnsInHanded {} Try.checked os 3 .any (Rows.namesSpec.pre6 enc Try.prog Try.f3 Rows.namesRow.domain false) (Rows.namesSpec.post enc Try.prog Try.f3 false true false false) := by
  refine returnsInHanded_of_change (C := Try.checked) own started (by kernel_rfl) Try.func3
    (ChangeSpec.witness6 (enc := enc) (C := Try.checked) false ⟨#[], #[], []⟩ 8 (by kernel_rfl) (by kernel_rfl) (by kernel_rfl) (by kernel_rfl)) ?_
  intro W base args ds gs before hval0 hW hcnd _
  have hval : ∀ (j : Nat) t v, Try.f3.params[j]? = some t → args[j]? = some v → Value.okWide Try.prog W .any base t v := hval0
  have hW' := hW
  obtain ⟨p, q, hA0, hV, rfl, hfz, hnd⟩ := hW
  have hA : DataW.TrodAll enc Try.prog W 0 (fun _ => true) true Try.f3.params.toList args.toList ds p := hA0
  rw [Try.params3] at hA hval
  obtain ⟨rfl, rfl, rfl⟩ := trodAll_none hA
  obtain ⟨rfl, rfl⟩ := trodVars_none hV
  clear hA0 hval0
  simp only [List.append_nil] at hW'
  refine (walk  W).mono fun e W' ⟨he, hg⟩ => ?_
  subst he
  exact ⟨_, rfl, Ax.post_of_grew (pa := []) (pv := []) hW' (fun _ _ _ => (trodAll_cons_mk (shut_bool Try.underlying4 _) trodAll_mk0)) (fun sp _ => rfl) (fun _ _ => rfl) rfl
    (hg.frame _) hg.frozen (ok_one (by kernel_rfl) rfl (okWide_bool_mk Try.underlying4 _))⟩

theorem over : Rows.namesRow.holds Try.pinned (OpenSpec.ofChange Rows.namesSpec) :=
  OpenClaim.holds_of_wide 3 Try.f3 rfl rfl rfl rfl rfl rfl rfl ⟨rfl, rfl, rfl, rfl, rfl⟩ rfl rfl rfl rfl rfl (by kernel_rfl) Try.func3 (by kernel_rfl)
    (of_decide_eq_true (by kernel_rfl)) (by unfold Func.isWrapper; first | (rw [if_pos (by decide +kernel)]; kernel_rfl) | (rw [if_neg (by decide +kernel)]; exact ⟨rfl, rfl⟩))
    (fun os started H enc _ => lifted os started H enc)

/-- ████ THE STATEMENT ████ -/
theorem proved : Rows.NamesSaid :=
  over
#print axioms proved
end Go.Proofs.Ytkpbmaoaedaafaa.names
