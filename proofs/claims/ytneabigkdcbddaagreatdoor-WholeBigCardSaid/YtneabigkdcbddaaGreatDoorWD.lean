/- The closed facts of the card of WholeBig. -/
import Derived.Test.YtneabigkdcbddaaGreatDoorRows
import Derived.Test.YtneabigkdcbddaaGreatDoorCards
import Derived.SevenTiedAt
import Derived.KernelRfl
namespace Go.Proofs.YtneabigkdcbddaaGreatDoor.wholebig
set_option maxRecDepth 100000
set_option maxHeartbeats 400000000
theorem goes_none {P : Program} (h : P.funcs.toList.all (fun f => !f.goes) = true) (func : String) : false = P.goesAt .entering func := by
  have hall : ∀ f ∈ P.funcs.toList, f.goes = false := fun f hf => by simpa using List.all_eq_true.1 h f hf
  have h1 : ∀ g : Nat, (P.funcs[g]?).any Func.goes = false := fun g => by
    cases hg : P.funcs[g]? with
    | none => rfl
    | some fn => exact hall fn (Array.mem_def.1 (Array.mem_of_getElem? hg))
  have h2 : P.funcs.any Func.goes = false := by
    rw [← Array.any_toList]
    exact List.any_eq_false.2 fun f hf => by rw [hall f hf]; simp
  have h3 : ∀ f, P.goes f = false := fun f => by
    unfold Program.goes
    rw [h2, Bool.and_false, Bool.or_false]
    exact List.any_eq_false.2 fun g _ => by rw [h1 g]; simp
  unfold Program.goesAt Program.goesFrom
  cases P.funcNamed func with
  | none => rfl
  | some f => simp [h3 f]
theorem nogo : Tryz.prog.funcs.toList.all (fun f => !f.goes) = true := by kernel_rfl
theorem wft : Rows.wholeBigRow.wfByText (OpenSpec.ofChange Rows.wholeBigSpec) = true := by kernel_rfl
theorem main : Tryz.pinned.checked.prog.mainIs = some (true, "ecfc3d47374a63cb8721a1d550a8958f88bc0245f30d7dd69f3760b1fef619c3".toList) := by kernel_rfl
theorem looks : true = Tryz.pinned.checked.prog.looks [] := by kernel_rfl
end Go.Proofs.YtneabigkdcbddaaGreatDoor.wholebig
