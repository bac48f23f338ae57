/- Facts: the table. -/
import Derived.Test.YtneabigkdcbddaaGreatDoorWK6x0
set_option maxRecDepth 100000
set_option linter.unusedVariables false
set_option linter.unusedSectionVars false
namespace Ax
open Y
def D6 : Tr Nat := (.node none (.node none (.node none (.node (some 6) (.node none (.node none (.node (some 6) .nil .nil) .nil) .nil) .nil) (.node none (.node none (.node none .nil (.node none (.node (some 6) .nil .nil) .nil)) (.node (some 6) .nil .nil)) .nil)) (.node none (.node none (.node none .nil (.node none .nil (.node none (.node (some 6) .nil .nil) .nil))) .nil) (.node none .nil (.node none .nil (.node (some 6) .nil .nil))))) (.node none .nil (.node none .nil (.node none .nil (.node (some 6) .nil (.node (some 6) .nil .nil))))))
def T6 : Tr (List Fact) := (u (u (u (u (u e (u e (u e (u (u e (w F69 e e)) e)))) e) (u (u e (u (u e (u (u e (w F54 e e)) e)) e)) e)) (u (u e (u (u (u (u (u (w F68 e e) e) e) e) e) (u e (u (u e (u (w F96 e e) e)) e)))) (u (u e (u (u e (u (u e (w F26 e e)) e)) e)) e))) (u (u (u (u e (u e (u e (u (u (w F46 e e) e) e)))) (u (u (u (u (w F27 e e) e) (u (u (w F110 e e) e) e)) e) (u (u (u (u e (w F75 e e)) e) e) e))) (u (u (u (u e (u (w F235 e e) e)) e) e) e)) (u (u (u e (u e (u e (u (w F413 e e) e)))) (u e (w F397 e e))) e)))
noncomputable def fact6 : CallT := orCall (factCall gN gL D6 T6) fact5
noncomputable def call6 : CallT := callN fact6 (hget tblT) argPs 100
section
variable {P : Go.Program} (hm : P.follows .mixedOrders = true) (ht : TblOk P gN (hget tblT))
include hm ht
theorem A6 : FactsOk P gN gL T6 := have h := C5 hm ht
 factsOk (aE (aE (aE (aE (aE aN (aE aN (aE aN (aE (aE aN (a1 h K69 aN aN)) aN)))) aN) (aE (aE aN (aE (aE aN (aE (aE aN (a1 h K54 aN aN)) aN)) aN)) aN)) (aE (aE aN (aE (aE (aE (aE (aE (a1 h K68 aN aN) aN) aN) aN) aN) (aE aN (aE (aE aN (aE (a1 h K96 aN aN) aN)) aN)))) (aE (aE aN (aE (aE aN (aE (aE aN (a1 h K26 aN aN)) aN)) aN)) aN))) (aE (aE (aE (aE aN (aE aN (aE aN (aE (aE (a1 h K46 aN aN) aN) aN)))) (aE (aE (aE (aE (a1 h K27 aN aN) aN) (aE (aE (a1 h K110 aN aN) aN) aN)) aN) (aE (aE (aE (aE aN (a1 h K75 aN aN)) aN) aN) aN))) (aE (aE (aE (aE aN (aE (a1 h K235 aN aN) aN)) aN) aN) aN)) (aE (aE (aE aN (aE aN (aE aN (aE (a1 h K413 aN aN) aN)))) (aE aN (a1 h K397 aN aN))) aN)))
theorem B6 : CallOk P gN fact6 := orCall_ok (factCall_ok gok (A6 hm ht)) (B5 hm ht)
theorem C6 : CallOk P gN call6 := callN_ok hm paths (B6 hm ht) ht 100
end
end Ax
