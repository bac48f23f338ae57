/- Facts: none yet. -/
import Derived.Test.YtneabigkdcbddaaGreatDoorT
import Derived.KernelRfl
set_option maxRecDepth 100000
set_option linter.unusedVariables false
set_option linter.unusedSectionVars false
namespace Ax
def gN : Nat := 13
def gL : List (Nat × Nat × List AV) := [(1,426,[(cW 1),(cW 10),(cW 100),(cW 1000),(cW 10000),(cW 100000),(cW 1000000),(cW 10000000),(cW 100000000),(cW 1000000000),(cW 10000000000),(cW 100000000000),(cW 1000000000000),(cW 10000000000000),(cW 100000000000000),(cW 1000000000000000),(cW 10000000000000000),(cW 100000000000000000),(cW 1000000000000000000),(cW 10000000000000000000)])]
noncomputable def fact0 : CallT := fun _ _ _ => none
noncomputable def call0 : CallT := callN fact0 (hget tblT) argPs 100
theorem gok : glOk gN gL = true := by kernel_rfl
theorem paths : PathsOk argPs := paths_ok (n := 16) rfl (by decide)
section
variable {P : Go.Program} (hm : P.follows .mixedOrders = true) (ht : TblOk P gN (hget tblT))
include hm ht
theorem B0 : CallOk P gN fact0 := noFacts
theorem C0 : CallOk P gN call0 := callN_ok hm paths noFacts ht 100
end
end Ax
