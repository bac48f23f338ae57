/- Facts: none yet. -/
import Derived.Test.YtneabigkdcbddaaGreatDoorT
import Derived.KernelRfl
set_option maxRecDepth 100000
set_option linter.unusedVariables false
set_option linter.unusedSectionVars false
namespace Ax
def gN : Nat := 13
def gL : List (Nat × Nat × List AV) := [(1,426,[(cW 1),(cW 10),(cW 100),(cW 1000),(cW 10000),(cW 100000),(cW 1000000),(cW 10000000),(cW 100000000),(cW 1000000000),(cW 10000000000),(cW 100000000000),(cW 1000000000000),(cW 10000000000000),(cW 100000000000000),(cW 1000000000000000),(cW 10000000000000000),(cW 100000000000000000),(cW 1000000000000000000),(cW 10000000000000000000)])]
noncomputable def fact0 : CallT := fun _ _ _ => none
noncomputable def call0 : CallT := callN fact0 (hget tblT) argPs 100
theorem gok : glOk gN gL = true := by kernel_rfl
theorem paths : PathsOk argPs := paths_ok (n := 16) rfl (by decide)
section
variable {P : Go.Program} (hm : P.follows .mixedOrders = true) (ht : TblOk P gN (hget tblT))
include hm ht
theorem B0 : CallOk P gN fact0 := noFacts
theorem C0 : CallOk P gN call0 := callN_ok hm paths noFacts ht 100
end
def dg (n : Nat) : List Nat := match Nat.blt n 10 with | true => [Nat.add 48 n] | false => (match Nat.blt n 100 with | true => [Nat.add 48 (Nat.div n 10), Nat.add 48 (Nat.mod n 10)] | false => [Nat.add 48 (Nat.div n 100), Nat.add 48 (Nat.mod (Nat.div n 10) 10), Nat.add 48 (Nat.mod n 10)])
def ky (n : Nat) : List Nat := 34 :: List.append (dg n) [34, 32, 34, 49, 34, 32]
noncomputable def chkL (call : CallT) (A : Nat → Fact) : List Nat → Bool
  | [] => true
  | n :: l => match chk gN gL call (A n) with | true => chkL call A l | false => false
theorem kl {call : CallT} {A : Nat → Fact} : ∀ {l : List Nat}, chkL call A l = true → ∀ (i : Nat) {n : Nat}, l[i]? = some n → chk gN gL call (A n) = true
  | [], _, i, n, h => by simp at h
  | m :: l, h, i, n, hn => by
    simp only [chkL] at h
    split at h <;> try (cases h; done)
    cases i with
    | zero => simp at hn; subst hn; assumption
    | succ i => exact kl h i (by simpa using hn)
end Ax
