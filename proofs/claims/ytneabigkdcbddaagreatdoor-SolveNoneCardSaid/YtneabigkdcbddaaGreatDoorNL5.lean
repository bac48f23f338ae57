/- Facts: the table. -/
import Derived.Test.YtneabigkdcbddaaGreatDoorNK5x0
import Derived.Test.YtneabigkdcbddaaGreatDoorNK5x1
import Derived.Test.YtneabigkdcbddaaGreatDoorNK5x2
import Derived.Test.YtneabigkdcbddaaGreatDoorNK5x3
set_option maxRecDepth 100000
set_option linter.unusedVariables false
set_option linter.unusedSectionVars false
namespace Ax
open Y
def D5 : Tr Nat := (.node none (.node none (.node none (.node none .nil (.node (some 6) (.node (some 6) (.node (some 6) .nil .nil) .nil) .nil)) (.node none .nil (.node none .nil (.node none .nil (.node (some 6) .nil .nil))))) (.node none (.node none .nil (.node none (.node (some 6) .nil .nil) .nil)) .nil)) (.node none (.node none (.node none (.node (some 6) (.node none (.node (some 6) .nil .nil) .nil) .nil) .nil) (.node none .nil (.node none .nil (.node none .nil (.node none .nil (.node none (.node (some 6) .nil .nil) .nil)))))) .nil))
def T5 : Tr (List Fact) := (u (u (u (u (u e (u (u e (u (u (w F55 e e) e) e)) e)) e) (u (u (u e (u e (u (u (w F277 e e) e) e))) (u (u (u e (u e (v [F79,F80] e e))) e) e)) (u (u (u e (u e (u e (w F26 e e)))) (u (u (u (w F231 e e) e) e) e)) e))) (u (u (u (u (u e (w F83 e e)) e) (u (u e (u (v [F386,F391] e e) e)) e)) (u e (u (u (u e (u (w F33 e e) e)) (u (u (w F76 e e) e) e)) (u (u (u (w F355 e e) e) e) (u e (u (w F121 e e) e)))))) (u (u (u (u e (u (u e (w F423 e e)) e)) e) (u (u (u (u e (w F247 e e)) e) e) e)) (w F275 (u e (u e (u (w F89 e e) e))) (u (u (u (w F295 e e) e) (w F13 e e)) e))))) (u (u (u (u (u e (u e (u (w F224 e e) e))) e) (u (u (u (u e (w F24 e e)) e) e) (u (u e (u e (u (w F7 e e) e))) (w F78 (w F127 (u e (w F405 e e)) e) (u e (w F286 e e)))))) (u (u (w F389 e e) e) (u e (u (u (u (w F333 e e) e) e) (u (u (w F338 e e) e) (u (w F417 e e) (u e (w F299 e e)))))))) (u (u (u (v [F424,F434] (u e (u e (u (v [F126,F435] e e) e))) (u e (u e (u e (v [F19,F32] e e))))) (u (u (u e (u (w F245 e e) e)) e) e)) (u e (u e (u (u (u (w F104 e e) e) e) e)))) (u e (u e (u (w F390 e e) e))))))
noncomputable def fact5 : CallT := orCall (factCall gN gL D5 T5) fact4
noncomputable def call5 : CallT := callN fact5 (hget tblT) argPs 100
section
variable {P : Go.Program} (hm : P.follows .mixedOrders = true) (ht : TblOk P gN (hget tblT))
include hm ht
theorem A5 : FactsOk P gN gL T5 := have h := C4 hm ht
 factsOk (aE (aE (aE (aE (aE aN (aE (aE aN (aE (aE (a1 h K55 aN aN) aN) aN)) aN)) aN) (aE (aE (aE aN (aE aN (aE (aE (a1 h K277 aN aN) aN) aN))) (aE (aE (aE aN (aE aN (aS (fK h K79 (fK h K80 fN)) aN aN))) aN) aN)) (aE (aE (aE aN (aE aN (aE aN (a1 h K26 aN aN)))) (aE (aE (aE (a1 h K231 aN aN) aN) aN) aN)) aN))) (aE (aE (aE (aE (aE aN (a1 h K83 aN aN)) aN) (aE (aE aN (aE (aS (fK h K386 (fK h K391 fN)) aN aN) aN)) aN)) (aE aN (aE (aE (aE aN (aE (a1 h K33 aN aN) aN)) (aE (aE (a1 h K76 aN aN) aN) aN)) (aE (aE (aE (a1 h K355 aN aN) aN) aN) (aE aN (aE (a1 h K121 aN aN) aN)))))) (aE (aE (aE (aE aN (aE (aE aN (a1 h K423 aN aN)) aN)) aN) (aE (aE (aE (aE aN (a1 h K247 aN aN)) aN) aN) aN)) (a1 h K275 (aE aN (aE aN (aE (a1 h K89 aN aN) aN))) (aE (aE (aE (a1 h K295 aN aN) aN) (a1 h K13 aN aN)) aN))))) (aE (aE (aE (aE (aE aN (aE aN (aE (a1 h K224 aN aN) aN))) aN) (aE (aE (aE (aE aN (a1 h K24 aN aN)) aN) aN) (aE (aE aN (aE aN (aE (a1 h K7 aN aN) aN))) (a1 h K78 (a1 h K127 (aE aN (a1 h K405 aN aN)) aN) (aE aN (a1 h K286 aN aN)))))) (aE (aE (a1 h K389 aN aN) aN) (aE aN (aE (aE (aE (a1 h K333 aN aN) aN) aN) (aE (aE (a1 h K338 aN aN) aN) (aE (a1 h K417 aN aN) (aE aN (a1 h K299 aN aN)))))))) (aE (aE (aE (aS (fK h K424 (fK h K434 fN)) (aE aN (aE aN (aE (aS (fK h K126 (fK h K435 fN)) aN aN) aN))) (aE aN (aE aN (aE aN (aS (fK h K19 (fK h K32 fN)) aN aN))))) (aE (aE (aE aN (aE (a1 h K245 aN aN) aN)) aN) aN)) (aE aN (aE aN (aE (aE (aE (a1 h K104 aN aN) aN) aN) aN)))) (aE aN (aE aN (aE (a1 h K390 aN aN) aN))))))
theorem B5 : CallOk P gN fact5 := orCall_ok (factCall_ok gok (A5 hm ht)) (B4 hm ht)
theorem C5 : CallOk P gN call5 := callN_ok hm paths (B5 hm ht) ht 100
end
end Ax
