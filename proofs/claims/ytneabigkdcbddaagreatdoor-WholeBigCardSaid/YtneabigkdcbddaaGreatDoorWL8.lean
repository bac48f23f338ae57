/- Facts: the table. -/
import Derived.Test.YtneabigkdcbddaaGreatDoorWK8x0
set_option maxRecDepth 100000
set_option linter.unusedVariables false
set_option linter.unusedSectionVars false
namespace Ax
open Y
def D8 : Tr Nat := (.node none (.node none (.node none (.node none (.node (some 6) .nil .nil) .nil) .nil) .nil) (.node none .nil (.node none .nil (.node none (.node none .nil (.node none .nil (.node none .nil (.node (some 6) .nil .nil)))) .nil))))
def T8 : Tr (List Fact) := (u e (u (u e (u (u e (u (u (u e (u (w F425 e e) e)) e) e)) e)) (u e (u (u e (u e (u e (w F410 e e)))) e))))
noncomputable def fact8 : CallT := orCall (factCall gN gL D8 T8) fact7
noncomputable def call8 : CallT := callN fact8 (hget tblT) argPs 100
section
variable {P : Go.Program} (hm : P.follows .mixedOrders = true) (ht : TblOk P gN (hget tblT))
include hm ht
theorem A8 : FactsOk P gN gL T8 := have h := C7 hm ht
 factsOk (aE aN (aE (aE aN (aE (aE aN (aE (aE (aE aN (aE (a1 h K425 aN aN) aN)) aN) aN)) aN)) (aE aN (aE (aE aN (aE aN (aE aN (a1 h K410 aN aN)))) aN))))
theorem B8 : CallOk P gN fact8 := orCall_ok (factCall_ok gok (A8 hm ht)) (B7 hm ht)
theorem C8 : CallOk P gN call8 := callN_ok hm paths (B8 hm ht) ht 100
end
end Ax
