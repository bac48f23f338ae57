/- Facts: the table. -/
import Derived.Test.YtneabigkdcbddaaGreatDoorNK1x0
set_option maxRecDepth 100000
set_option linter.unusedVariables false
set_option linter.unusedSectionVars false
namespace Ax
open Y
def D1 : Tr Nat := (.node none (.node none .nil (.node none (.node none .nil (.node none .nil (.node none .nil (.node none (.node none (.node (some 6) .nil .nil) .nil) .nil)))) .nil)) (.node none (.node none (.node none (.node none (.node none (.node none .nil (.node none (.node (some 6) .nil .nil) .nil)) .nil) .nil) .nil) .nil) .nil))
def T1 : Tr (List Fact) := (u (u (u (u (u (u e (u e (u (w F3 e e) e))) e) (u (u e (u e (u (w F401 e e) e))) e)) (u (u (u e (u e (u (w F81 e e) e))) e) e)) (u (u (u (u e (u e (u (w F212 e e) e))) e) e) (u (u (u e (u e (u (w F403 e e) e))) e) e))) (u (u (u (u (u e (u e (u (w F63 e e) e))) e) (u (u e (u e (u (w F57 e e) e))) (u (u e (u (u (w F1 e e) e) e)) (u e (u (w F354 e e) e))))) (u (u (u e (u e (u (w F153 e e) e))) e) (u e (u e (u e (u (w F267 e e) e)))))) (u (u (u (u e (u e (u (w F91 e e) e))) (u e (u e (u (w F107 e e) e)))) (u (u e (u e (u (w F113 e e) e))) (u (u (u e (w F122 e e)) e) e))) (u (u (u (u (u e (w F158 e e)) e) (u e (u (w F72 e e) e))) e) (u (u e (u e (u (w F219 e e) e))) e)))))
noncomputable def fact1 : CallT := orCall (factCall gN gL D1 T1) fact0
noncomputable def call1 : CallT := callN fact1 (hget tblT) argPs 100
section
variable {P : Go.Program} (hm : P.follows .mixedOrders = true) (ht : TblOk P gN (hget tblT))
include hm ht
theorem A1 : FactsOk P gN gL T1 := have h := C0 hm ht
 factsOk (aE (aE (aE (aE (aE (aE aN (aE aN (aE (a1 h K3 aN aN) aN))) aN) (aE (aE aN (aE aN (aE (a1 h K401 aN aN) aN))) aN)) (aE (aE (aE aN (aE aN (aE (a1 h K81 aN aN) aN))) aN) aN)) (aE (aE (aE (aE aN (aE aN (aE (a1 h K212 aN aN) aN))) aN) aN) (aE (aE (aE aN (aE aN (aE (a1 h K403 aN aN) aN))) aN) aN))) (aE (aE (aE (aE (aE aN (aE aN (aE (a1 h K63 aN aN) aN))) aN) (aE (aE aN (aE aN (aE (a1 h K57 aN aN) aN))) (aE (aE aN (aE (aE (a1 h K1 aN aN) aN) aN)) (aE aN (aE (a1 h K354 aN aN) aN))))) (aE (aE (aE aN (aE aN (aE (a1 h K153 aN aN) aN))) aN) (aE aN (aE aN (aE aN (aE (a1 h K267 aN aN) aN)))))) (aE (aE (aE (aE aN (aE aN (aE (a1 h K91 aN aN) aN))) (aE aN (aE aN (aE (a1 h K107 aN aN) aN)))) (aE (aE aN (aE aN (aE (a1 h K113 aN aN) aN))) (aE (aE (aE aN (a1 h K122 aN aN)) aN) aN))) (aE (aE (aE (aE (aE aN (a1 h K158 aN aN)) aN) (aE aN (aE (a1 h K72 aN aN) aN))) aN) (aE (aE aN (aE aN (aE (a1 h K219 aN aN) aN))) aN)))))
theorem B1 : CallOk P gN fact1 := orCall_ok (factCall_ok gok (A1 hm ht)) (B0 hm ht)
theorem C1 : CallOk P gN call1 := callN_ok hm paths (B1 hm ht) ht 100
end
end Ax
