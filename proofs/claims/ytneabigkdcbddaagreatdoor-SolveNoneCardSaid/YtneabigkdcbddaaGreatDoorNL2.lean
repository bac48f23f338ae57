/- Facts: the table. -/
import Derived.Test.YtneabigkdcbddaaGreatDoorNK2x0
set_option maxRecDepth 100000
set_option linter.unusedVariables false
set_option linter.unusedSectionVars false
namespace Ax
open Y
def D2 : Tr Nat := (.node none .nil (.node none (.node none (.node none .nil (.node none (.node none (.node none (.node (some 6) .nil .nil) .nil) .nil) .nil)) .nil) .nil))
def T2 : Tr (List Fact) := (u (u (u (u (u e (u (u e (w F2 e e)) e)) e) (u (u e (u (u e (w F38 e e)) e)) e)) (u (u (u e (u (u e (w F357 e e)) (u e (u e (u (w F42 e e) e))))) e) (u (u e (u (u e (w F392 e e)) e)) e))) (u (u (u (u e (u (u e (w F34 e e)) e)) (u e (u (u (w F407 e e) e) e))) e) (u (u (u e (u (u (u (u e (w F111 e e)) e) (w F46 e e)) e)) e) e)))
noncomputable def fact2 : CallT := orCall (factCall gN gL D2 T2) fact1
noncomputable def call2 : CallT := callN fact2 (hget tblT) argPs 100
section
variable {P : Go.Program} (hm : P.follows .mixedOrders = true) (ht : TblOk P gN (hget tblT))
include hm ht
theorem A2 : FactsOk P gN gL T2 := have h := C1 hm ht
 factsOk (aE (aE (aE (aE (aE aN (aE (aE aN (a1 h K2 aN aN)) aN)) aN) (aE (aE aN (aE (aE aN (a1 h K38 aN aN)) aN)) aN)) (aE (aE (aE aN (aE (aE aN (a1 h K357 aN aN)) (aE aN (aE aN (aE (a1 h K42 aN aN) aN))))) aN) (aE (aE aN (aE (aE aN (a1 h K392 aN aN)) aN)) aN))) (aE (aE (aE (aE aN (aE (aE aN (a1 h K34 aN aN)) aN)) (aE aN (aE (aE (a1 h K407 aN aN) aN) aN))) aN) (aE (aE (aE aN (aE (aE (aE (aE aN (a1 h K111 aN aN)) aN) (a1 h K46 aN aN)) aN)) aN) aN)))
theorem B2 : CallOk P gN fact2 := orCall_ok (factCall_ok gok (A2 hm ht)) (B1 hm ht)
theorem C2 : CallOk P gN call2 := callN_ok hm paths (B2 hm ht) ht 100
end
end Ax
