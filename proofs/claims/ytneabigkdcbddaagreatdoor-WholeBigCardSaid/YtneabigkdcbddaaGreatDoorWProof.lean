/- Sixty columns and rows of all scenarios at once, and not one more: the law's function answers true for every whole number, and leaves all memory as it was. No condition but the row's own (the listed package variables read as the program lays them). The number is told by its remainder; for each of the nine remainders the rest of the function is run on abstract values by the kernel; that such a run tells of the model's is proved in the texts that this one imports. -/
import Derived.Test.YtneabigkdcbddaaGreatDoorRows
import Derived.Test.YtneabigkdcbddaaGreatDoorCards
import Derived.Test.YtneabigkdcbddaaGreatDoorV
import Derived.WalkKit
import Derived.ProofKit
import Derived.OpenShut
import Derived.Test.YtneabigkdcbddaaGreatDoorB
import Derived.Test.YtneabigkdcbddaaGreatDoorWC
import Derived.Test.YtneabigkdcbddaaGreatDoorWD
import Derived.Test.YtneabigkdcbddaaGreatDoorWQ0
import Derived.Test.YtneabigkdcbddaaGreatDoorWQ1
import Derived.Test.YtneabigkdcbddaaGreatDoorWQ2
namespace Go.Proofs.YtneabigkdcbddaaGreatDoor.wholebig
open Go.ChangeShapes Go.WideShapes Go.ChangeAt Go.RowKit Go.Lib Ax Ax.Wn
set_option linter.unusedVariables false
set_option maxRecDepth 100000

theorem own : ownKnob Tryz.prog.godebug = none := by kernel_rfl
noncomputable abbrev laid : List (String × DataW Unit) := Rows.wholeBigRow.laid
def pow10 : List Int := [1, 10, 100, 1000, 10000, 100000, 1000000, 10000000, 100000000, 1000000000, 10000000000, 100000000000, 1000000000000, 10000000000000, 100000000000000, 1000000000000000, 10000000000000000, 100000000000000000, 1000000000000000000, 10000000000000000000]
theorem gPow : Tryz.prog.globalNamed "internal/strconv.uint64pow10" = some 1 := by kernel_rfl
theorem tPow : (Tryz.prog.globals[1]?).map (·.type) = some 426 := by kernel_rfl
theorem pow_of {W : World} (h : laidMet Tryz.prog laid W) : TabIs Tryz.prog W "internal/strconv.uint64pow10" .u64 pow10 :=
  tabIs_of_head (g := 1) (t := 426) (e := 137) (n := 20) gPow tPow (by kernel_rfl) (by kernel_rfl) (by kernel_rfl) (by kernel_rfl) h
theorem rep {W : World} (h : laidMet Tryz.prog laid W) : Rep 13 (fun _ => False) (sig1 1 20) ⟨putG gL .nil, 13, []⟩ W :=
  rep_tab (zs := pow10) gPow (pow_of h) (by decide) (by decide) (by kernel_rfl)
theorem forget (n a c : Int) (r : Nat) : Forget (f4 (.int .i64 n) (.int .i64 n) (.int .i64 a) (.int .i64 c) r) (f5 (.int .i64 n) (.int .i64 n) (.int .i64 a) (.int .i64 c) r) :=
  (Forget.int (t := 16) (show ev (f4 (.int .i64 n) (.int .i64 n) (.int .i64 a) (.int .i64 c) r) (.t (pth 12 16)) = .int .i64 n by kernel_rfl)).trans
    ((Forget.int (t := 17) (show ev (Tr.set .any (f4 (.int .i64 n) (.int .i64 n) (.int .i64 a) (.int .i64 c) r) (pth 12 16)) (.t (pth 12 17)) = .int .i64 a by kernel_rfl)).trans
      (Forget.int (t := 18) (show ev (Tr.set .any (Tr.set .any (f4 (.int .i64 n) (.int .i64 n) (.int .i64 a) (.int .i64 c) r) (pth 12 16)) (pth 12 17)) (.t (pth 12 18)) = .int .i64 c by kernel_rfl)))
theorem seqs : b = .seq (hdC b) (.seq (hdC (tlC b)) (.seq (hdC (tlC (tlC b))) (.seq a4 rest))) := by kernel_rfl
theorem tr : trFn Tryz.prog 13 5 = some (.go b [.t p2]) := r5
theorem fin (n a : Int) (r : Nat) (h4 : exec a4 call10 (f3 (.int .i64 n)) st = .ok .normal (f4 (.int .i64 n) (.int .i64 n) (.int .i64 a) (.int .i64 (a + 9)) r) st) (hr : ∀ w x y z : AV, okR p2 13 (exec rest call10 (f5 w x y z r) st) = true)
    (w : World) (hl : laidMet Tryz.prog laid w) : Calls Tryz.prog 5 #[.int .i64 n] w fun e w' => e = .returned (.bool true) ∧ Grew w w' := by
  obtain ⟨fr', s', hx, hv, hlog⟩ := okR_ok (hr (.int .i64 n) (.int .i64 n) (.int .i64 a) (.int .i64 (a + 9)))
  refine runs_closed mixed paths (C10 mixed tblOk) tr (args := [.int .i64 n]) (fr := f0 (.int .i64 n)) (h := putG gL .nil) (n := 13) rfl ?_ hv hlog (rep hl) (by simp [VRs, VR])
  rw [seqs]
  exact .seq (.run (e1 _)) (Forget.refl _) (.seq (.run (e2 _)) (Forget.refl _) (.seq (.run (e3 _)) (Forget.refl _) (.seq (.run h4) (forget n a (a + 9) r) (.run hx))))
theorem walk (n : Int) (w : World) (hl : laidMet Tryz.prog laid w) : Calls Tryz.prog 5 #[.int .i64 n] w fun e w' => e = .returned (.bool true) ∧ Grew w w' := by
  have hb := tmod_range n 9 (by decide)
  have hc : n.tmod (9 : Nat) = -8 ∨ n.tmod (9 : Nat) = -7 ∨ n.tmod (9 : Nat) = -6 ∨ n.tmod (9 : Nat) = -5 ∨ n.tmod (9 : Nat) = -4 ∨ n.tmod (9 : Nat) = -3 ∨ n.tmod (9 : Nat) = -2 ∨ n.tmod (9 : Nat) = -1 ∨ n.tmod (9 : Nat) = 0 ∨ n.tmod (9 : Nat) = 1 ∨ n.tmod (9 : Nat) = 2 ∨ n.tmod (9 : Nat) = 3 ∨ n.tmod (9 : Nat) = 4 ∨ n.tmod (9 : Nat) = 5 ∨ n.tmod (9 : Nat) = 6 ∨ n.tmod (9 : Nat) = 7 ∨ n.tmod (9 : Nat) = 8 := by omega
  rcases hc with h | h | h | h | h | h | h | h | h | h | h | h | h | h | h | h | h
  · exact fin n (-8) 1 (by rw [e4 n, binop_rem n 9 (by decide), h]; exact gm8 n) h1 w hl
  · exact fin n (-7) 2 (by rw [e4 n, binop_rem n 9 (by decide), h]; exact gm7 n) h2 w hl
  · exact fin n (-6) 3 (by rw [e4 n, binop_rem n 9 (by decide), h]; exact gm6 n) h3 w hl
  · exact fin n (-5) 4 (by rw [e4 n, binop_rem n 9 (by decide), h]; exact gm5 n) h4 w hl
  · exact fin n (-4) 5 (by rw [e4 n, binop_rem n 9 (by decide), h]; exact gm4 n) h5 w hl
  · exact fin n (-3) 6 (by rw [e4 n, binop_rem n 9 (by decide), h]; exact gm3 n) h6 w hl
  · exact fin n (-2) 7 (by rw [e4 n, binop_rem n 9 (by decide), h]; exact gm2 n) h7 w hl
  · exact fin n (-1) 8 (by rw [e4 n, binop_rem n 9 (by decide), h]; exact gm1 n) h8 w hl
  · exact fin n (0) 0 (by rw [e4 n, binop_rem n 9 (by decide), h]; exact g0 n) h0 w hl
  · exact fin n (1) 1 (by rw [e4 n, binop_rem n 9 (by decide), h]; exact g1 n) h1 w hl
  · exact fin n (2) 2 (by rw [e4 n, binop_rem n 9 (by decide), h]; exact g2 n) h2 w hl
  · exact fin n (3) 3 (by rw [e4 n, binop_rem n 9 (by decide), h]; exact g3 n) h3 w hl
  · exact fin n (4) 4 (by rw [e4 n, binop_rem n 9 (by decide), h]; exact g4 n) h4 w hl
  · exact fin n (5) 5 (by rw [e4 n, binop_rem n 9 (by decide), h]; exact g5 n) h5 w hl
  · exact fin n (6) 6 (by rw [e4 n, binop_rem n 9 (by decide), h]; exact g6 n) h6 w hl
  · exact fin n (7) 7 (by rw [e4 n, binop_rem n 9 (by decide), h]; exact g7 n) h7 w hl
  · exact fin n (8) 8 (by rw [e4 n, binop_rem n 9 (by decide), h]; exact g8 n) h8 w hl

theorem lifted (os : Os) (started : os.Started) (H : Type) (enc : TypeId × Value → H) :
    ReturnsInHanded {} Tryz.checked os 5 .any (fun w args => (Rows.wholeBigSpec.pre enc Tryz.prog Tryz.f5 [] false w args ∧ laidMetH Tryz.prog laid w) ∧ sizedMet enc Tryz.prog Tryz.f5 (OpenSpec.ofChange Rows.wholeBigSpec) false w args)
      (Rows.wholeBigSpec.post enc Tryz.prog Tryz.f5 false true false false) := by
  refine returnsInHanded_of_change_and (C := Tryz.checked) (X := fun w _ => laidMetH Tryz.prog laid w) (fun _ _ _ hh h => h.of_heap hh) own started (by kernel_rfl) Tryz.func5
    (ChangeSpec.witness_shaped (enc := enc) (C := Tryz.checked) (os := os) (X := fun w _ => laidMetH Tryz.prog laid w) false (World.laidAll Tryz.prog os laid) #[.int .i64 0] 8 (World.laidAll_os _ _ _)
      (World.shaped_of_ZipB (by kernel_rfl) (by kernel_rfl)) (by kernel_rfl) (by kernel_rfl) (by kernel_rfl)
      (by rw [MakeChecks.laidMetH_plain _ _ _ (by kernel_rfl)]; exact laidMet_laidAll _ (by kernel_rfl) (by kernel_rfl))) ?_
  intro W base args ds gs before hval0 hW _ _ hL _
  have hval : ∀ (j : Nat) t v, Tryz.f5.params[j]? = some t → args[j]? = some v → Value.okWide Tryz.prog W .any base t v := hval0
  have hW' := hW
  obtain ⟨p, q, hA0, hV, rfl, _, _⟩ := hW
  have hA : DataW.TrodAll enc Tryz.prog W 0 (fun _ => true) true Tryz.f5.params.toList args.toList ds p := hA0
  rw [Tryz.params5] at hA hval
  obtain ⟨v0, d0, rfl, rfl, h0⟩ := trodAll_one hA
  obtain ⟨rfl, rfl⟩ := trodVars_none hV
  obtain ⟨x, rfl, rfl, rfl, wx⟩ := open_int Tryz.underlying3 (hval 0 3 v0 rfl rfl) h0
  clear hA0 hval0
  simp only [List.append_nil] at hW'
  rw [MakeChecks.laidMetH_plain _ _ _ (by kernel_rfl)] at hL
  refine (walk x W hL).mono fun e W' ⟨he, hg⟩ => ?_
  subst he
  exact ⟨_, rfl, post_of_grew (pa := []) (pv := []) hW' (fun _ _ _ => (trodAll_cons_mk (shut_bool Tryz.underlying4 _) trodAll_mk0)) (fun sp _ => trodAll_mk1 (shut_int Tryz.underlying3 wx)) (fun _ _ => rfl) rfl
    (hg.frame _) hg.frozen (ok_one (by kernel_rfl) rfl (okWide_bool_mk Tryz.underlying4 _))⟩

theorem holds : Rows.WholeBigSaid :=
  OpenClaim.holds_of_wide 5 Tryz.f5 rfl rfl rfl rfl rfl rfl rfl ⟨rfl, rfl, rfl, rfl, rfl⟩ rfl rfl rfl rfl rfl named Tryz.func5 closed inst wrap
    (fun os started H enc _ => lifted os started H enc)

theorem proved : Rows.WholeBigCardSaid :=
  Claim7.holds_tied_plain_at .later [] [.data, .data, .data, .pinned, .data, .sentinel, .sentinel, .pinned, .pinned, .pinned, .pinned, .pinned] true (true, "ecfc3d47374a63cb8721a1d550a8958f88bc0245f30d7dd69f3760b1fef619c3") true
    holds (fun _ h => by cases h) wft (fun _ h => by cases h) wholeBig_row_tie rfl ⟨rfl, rfl⟩ main rfl
    (fun f fn hf hfn => by
      obtain rfl : f = 5 := (Option.some.inj (named.symm.trans hf)).symm
      obtain rfl : fn = Tryz.f5 := (Option.some.inj (Tryz.func5.symm.trans hfn)).symm
      exact ⟨looks, fun j t ht => by
        rw [Tryz.params5] at ht
        have hm : t ∈ [3] := by simpa using Array.mem_of_getElem? ht
        have hall : ([3].all fun u => !Tryz.prog.wantsStandIn u) = true := by kernel_rfl
        exact (show Tryz.prog.wantsStandIn t = false by simpa using List.all_eq_true.1 hall t hm)⟩)
    (goes_none nogo _)
#print axioms proved
end Go.Proofs.YtneabigkdcbddaaGreatDoor.wholebig
