/- Nothing at all (no files, no stages, no scenarios) is answered as the document says, and the small files are solved and proved: the law's function answers true; it takes no argument, and leaves all memory as it was. No condition but the row's own (the listed package variables read as the program lays them). The walk is a run of the function on abstract values, carried out by the kernel; that such a run tells of the model's is proved in the texts that this one imports. -/
import Derived.Test.YtneabigkdcbddaaGreatDoorRows
import Derived.Test.YtneabigkdcbddaaGreatDoorCards
import Derived.Test.YtneabigkdcbddaaGreatDoorV
import Derived.WalkKit
import Derived.ProofKit
import Derived.OpenShut
import Derived.Test.YtneabigkdcbddaaGreatDoorB
import Derived.Test.YtneabigkdcbddaaGreatDoorNL9
import Derived.Test.YtneabigkdcbddaaGreatDoorNC
import Derived.Test.YtneabigkdcbddaaGreatDoorND
namespace Go.Proofs.YtneabigkdcbddaaGreatDoor.solvenone
open Go.ChangeShapes Go.WideShapes Go.ChangeAt Go.RowKit Go.Lib
set_option linter.unusedVariables false
set_option maxRecDepth 100000

theorem own : ownKnob Tryz.prog.godebug = none := by kernel_rfl
noncomputable abbrev laid : List (String × DataW Unit) := Rows.solveNoneRow.laid
def pow10 : List Int := [1, 10, 100, 1000, 10000, 100000, 1000000, 10000000, 100000000, 1000000000, 10000000000, 100000000000, 1000000000000, 10000000000000, 100000000000000, 1000000000000000, 10000000000000000, 100000000000000000, 1000000000000000000, 10000000000000000000]
theorem gPow : Tryz.prog.globalNamed "internal/strconv.uint64pow10" = some 1 := by kernel_rfl
theorem tPow : (Tryz.prog.globals[1]?).map (·.type) = some 426 := by kernel_rfl
theorem pow_of {W : World} (h : laidMet Tryz.prog laid W) : TabIs Tryz.prog W "internal/strconv.uint64pow10" .u64 pow10 :=
  tabIs_of_head (g := 1) (t := 426) (e := 137) (n := 20) gPow tPow (by kernel_rfl) (by kernel_rfl) (by kernel_rfl) (by kernel_rfl) h
theorem rep {W : World} (h : laidMet Tryz.prog laid W) : Ax.Rep 13 (fun _ => False) (Ax.sig1 1 20) ⟨Ax.putG Ax.gL .nil, 13, []⟩ W :=
  Ax.rep_tab (zs := pow10) gPow (pow_of h) (by decide) (by decide) (by kernel_rfl)
theorem run3 : Ax.okTrue (Ax.call9 3 [] ⟨Ax.putG Ax.gL .nil, 13, []⟩) = true := by kernel_rfl
theorem walk (w : World) (h : laidMet Tryz.prog laid w) : Calls Tryz.prog 3 #[] w fun e w' => e = .returned (.bool true) ∧ Ax.Grew w w' :=
  Ax.closed_ok (Ax.C9 Ax.mixed Ax.tblOk) rfl run3 (rep h) Ax.r3

theorem lifted (os : Os) (started : os.Started) (H : Type) (enc : TypeId × Value → H) :
    ReturnsInHanded {} Tryz.checked os 3 .any (fun w args => (Rows.solveNoneSpec.pre enc Tryz.prog Tryz.f3 [] false w args ∧ laidMetH Tryz.prog laid w) ∧ sizedMet enc Tryz.prog Tryz.f3 (OpenSpec.ofChange Rows.solveNoneSpec) false w args)
      (Rows.solveNoneSpec.post enc Tryz.prog Tryz.f3 false true false false) := by
  refine returnsInHanded_of_change_and (C := Tryz.checked) (X := fun w _ => laidMetH Tryz.prog laid w) (fun _ _ _ hh h => h.of_heap hh) own started (by kernel_rfl) Tryz.func3
    (ChangeSpec.witness_shaped (enc := enc) (C := Tryz.checked) (os := os) (X := fun w _ => laidMetH Tryz.prog laid w) false (World.laidAll Tryz.prog os laid) #[] 8 (World.laidAll_os _ _ _)
      (World.shaped_of_ZipB (by kernel_rfl) (by kernel_rfl)) (by kernel_rfl) (by kernel_rfl) (by kernel_rfl)
      (by rw [MakeChecks.laidMetH_plain _ _ _ (by kernel_rfl)]; exact laidMet_laidAll _ (by kernel_rfl) (by kernel_rfl))) ?_
  intro W base args ds gs before hval0 hW _ _ hL _
  have hval : ∀ (j : Nat) t v, Tryz.f3.params[j]? = some t → args[j]? = some v → Value.okWide Tryz.prog W .any base t v := hval0
  have hW' := hW
  obtain ⟨p, q, hA0, hV, rfl, _, _⟩ := hW
  have hA : DataW.TrodAll enc Tryz.prog W 0 (fun _ => true) true Tryz.f3.params.toList args.toList ds p := hA0
  rw [Tryz.params3] at hA hval
  obtain ⟨rfl, rfl, rfl⟩ := trodAll_none hA
  obtain ⟨rfl, rfl⟩ := trodVars_none hV
  clear hA0 hval0
  simp only [List.append_nil] at hW'
  rw [MakeChecks.laidMetH_plain _ _ _ (by kernel_rfl)] at hL
  refine (walk W hL).mono fun e W' ⟨he, hg⟩ => ?_
  subst he
  exact ⟨_, rfl, Ax.post_of_grew (pa := []) (pv := []) hW' (fun _ _ _ => (trodAll_cons_mk (shut_bool Tryz.underlying4 _) trodAll_mk0)) (fun sp _ => rfl) (fun _ _ => rfl) rfl
    (hg.frame _) hg.frozen (ok_one (by kernel_rfl) rfl (okWide_bool_mk Tryz.underlying4 _))⟩

theorem holds : Rows.SolveNoneSaid :=
  OpenClaim.holds_of_wide 3 Tryz.f3 rfl rfl rfl rfl rfl rfl rfl ⟨rfl, rfl, rfl, rfl, rfl⟩ rfl rfl rfl rfl rfl named Tryz.func3 closed inst wrap
    (fun os started H enc _ => lifted os started H enc)

theorem proved : Rows.SolveNoneCardSaid :=
  Claim7.holds_tied_plain_at .later [] [.data, .data, .data, .pinned, .data, .sentinel, .sentinel, .pinned, .pinned, .pinned, .pinned, .pinned] true (true, "ecfc3d47374a63cb8721a1d550a8958f88bc0245f30d7dd69f3760b1fef619c3") true
    holds (fun _ h => by cases h) wft (fun _ h => by cases h) solveNone_row_tie rfl ⟨rfl, rfl⟩ main rfl
    (fun f fn hf hfn => by
      obtain rfl : f = 3 := (Option.some.inj (named.symm.trans hf)).symm
      obtain rfl : fn = Tryz.f3 := (Option.some.inj (Tryz.func3.symm.trans hfn)).symm
      exact ⟨looks, fun j t ht => by
        rw [Tryz.params3] at ht
        simp at ht⟩)
    (goes_none nogo _)
#print axioms proved
end Go.Proofs.YtneabigkdcbddaaGreatDoor.solvenone
