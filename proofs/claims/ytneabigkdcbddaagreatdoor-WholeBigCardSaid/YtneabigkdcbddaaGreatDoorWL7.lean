/- Facts: the table. -/
import Derived.Test.YtneabigkdcbddaaGreatDoorWK7x0
set_option maxRecDepth 100000
set_option linter.unusedVariables false
set_option linter.unusedSectionVars false
namespace Ax
open Y
def D7 : Tr Nat := (.node none .nil (.node none (.node none (.node (some 6) .nil .nil) .nil) .nil))
def T7 : Tr (List Fact) := (u e (u e (u e (u e (u (u e (u e (w F347 e e))) e)))))
noncomputable def fact7 : CallT := orCall (factCall gN gL D7 T7) fact6
noncomputable def call7 : CallT := callN fact7 (hget tblT) argPs 100
section
variable {P : Go.Program} (hm : P.follows .mixedOrders = true) (ht : TblOk P gN (hget tblT))
include hm ht
theorem A7 : FactsOk P gN gL T7 := have h := C6 hm ht
 factsOk (aE aN (aE aN (aE aN (aE aN (aE (aE aN (aE aN (a1 h K347 aN aN))) aN)))))
theorem B7 : CallOk P gN fact7 := orCall_ok (factCall_ok gok (A7 hm ht)) (B6 hm ht)
theorem C7 : CallOk P gN call7 := callN_ok hm paths (B7 hm ht) ht 100
end
end Ax
