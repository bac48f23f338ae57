/- Facts: the table. -/
import Derived.Test.YtneabigkdcbddaaGreatDoorWK10x0
set_option maxRecDepth 100000
set_option linter.unusedVariables false
set_option linter.unusedSectionVars false
namespace Ax
open Y
def D10 : Tr Nat := (.node none .nil (.node none .nil (.node none (.node (some 6) .nil .nil) .nil)))
def T10 : Tr (List Fact) := (u e (u e (u (w F428 e e) e)))
noncomputable def fact10 : CallT := orCall (factCall gN gL D10 T10) fact9
noncomputable def call10 : CallT := callN fact10 (hget tblT) argPs 100
section
variable {P : Go.Program} (hm : P.follows .mixedOrders = true) (ht : TblOk P gN (hget tblT))
include hm ht
theorem A10 : FactsOk P gN gL T10 := have h := C9 hm ht
 factsOk (aE aN (aE aN (aE (a1 h K428 aN aN) aN)))
theorem B10 : CallOk P gN fact10 := orCall_ok (factCall_ok gok (A10 hm ht)) (B9 hm ht)
theorem C10 : CallOk P gN call10 := callN_ok hm paths (B10 hm ht) ht 100
end
end Ax
