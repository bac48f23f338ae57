/- Facts: the table. -/
import Derived.Test.YtneabigkdcbddaaGreatDoorWK9x0
set_option maxRecDepth 100000
set_option linter.unusedVariables false
set_option linter.unusedSectionVars false
namespace Ax
open Y
def D9 : Tr Nat := (.node none .nil (.node none .nil (.node none (.node none (.node none (.node none .nil (.node (some 6) .nil .nil)) .nil) .nil) .nil)))
def T9 : Tr (List Fact) := (u e (u e (u (u (u (u e (w F414 e e)) e) e) e)))
noncomputable def fact9 : CallT := orCall (factCall gN gL D9 T9) fact8
noncomputable def call9 : CallT := callN fact9 (hget tblT) argPs 100
section
variable {P : Go.Program} (hm : P.follows .mixedOrders = true) (ht : TblOk P gN (hget tblT))
include hm ht
theorem A9 : FactsOk P gN gL T9 := have h := C8 hm ht
 factsOk (aE aN (aE aN (aE (aE (aE (aE aN (a1 h K414 aN aN)) aN) aN) aN)))
theorem B9 : CallOk P gN fact9 := orCall_ok (factCall_ok gok (A9 hm ht)) (B8 hm ht)
theorem C9 : CallOk P gN call9 := callN_ok hm paths (B9 hm ht) ht 100
end
end Ax
