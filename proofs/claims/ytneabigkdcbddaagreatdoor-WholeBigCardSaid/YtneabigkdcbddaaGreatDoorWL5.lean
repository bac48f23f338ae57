/- Facts: the table. -/
import Derived.Test.YtneabigkdcbddaaGreatDoorWK5x0
set_option maxRecDepth 100000
set_option linter.unusedVariables false
set_option linter.unusedSectionVars false
namespace Ax
open Y
def D5 : Tr Nat := (.node none (.node none (.node none (.node none .nil (.node (some 6) (.node (some 6) (.node (some 6) .nil .nil) .nil) .nil)) (.node none .nil (.node none .nil (.node none .nil (.node (some 6) .nil .nil))))) (.node none (.node none .nil (.node none (.node (some 6) .nil .nil) .nil)) .nil)) (.node none (.node none (.node none (.node (some 6) (.node none (.node (some 6) .nil .nil) .nil) .nil) .nil) (.node none .nil (.node none .nil (.node none .nil (.node none .nil (.node none (.node (some 6) .nil .nil) .nil)))))) .nil))
def T5 : Tr (List Fact) := (u (u (u (u (u e (u (u e (u (u (w F28 e e) e) e)) e)) e) (u (u (u e (u e (u (u (w F268 e e) e) e))) (u (u (u e (u e (v [F56,F57] e e))) e) e)) (u (u e (u (u (u (w F220 e e) e) e) e)) e))) (u (u (u (u (u e (w F67 e e)) e) (u (u e (u (v [F377,F382] e e) e)) e)) (u e (u (u (u e (u (w F0 e e) e)) (u (u (w F53 e e) e) e)) (u (u (u (w F346 e e) e) e) (u e (u (w F107 e e) e)))))) (u (u (u (u e (u (u e (w F415 e e)) e)) e) (u (u (u (u e (w F236 e e)) e) e) e)) (w F266 (u e (u e (u (w F74 e e) e))) (u (u (u (w F286 e e) e) e) e))))) (u (u (u (u (u e (u e (u (w F213 e e) e))) e) (u e (u e (w F55 (w F114 (u e (w F396 e e)) e) (u e (w F277 e e)))))) (u (u (w F380 e e) e) (u e (u (u (u (w F324 e e) e) e) (u (u (w F329 e e) e) (u (w F409 e e) (u e (w F290 e e)))))))) (u (u (u (v [F416,F426] (u e (u e (u (v [F113,F427] e e) e))) e) (u (u (u e (u (w F234 e e) e)) e) e)) (u e (u e (u (u (u (w F90 e e) e) e) e)))) (u e (u e (u (w F381 e e) e))))))
noncomputable def fact5 : CallT := orCall (factCall gN gL D5 T5) fact4
noncomputable def call5 : CallT := callN fact5 (hget tblT) argPs 100
section
variable {P : Go.Program} (hm : P.follows .mixedOrders = true) (ht : TblOk P gN (hget tblT))
include hm ht
theorem A5 : FactsOk P gN gL T5 := have h := C4 hm ht
 factsOk (aE (aE (aE (aE (aE aN (aE (aE aN (aE (aE (a1 h K28 aN aN) aN) aN)) aN)) aN) (aE (aE (aE aN (aE aN (aE (aE (a1 h K268 aN aN) aN) aN))) (aE (aE (aE aN (aE aN (aS (fK h K56 (fK h K57 fN)) aN aN))) aN) aN)) (aE (aE aN (aE (aE (aE (a1 h K220 aN aN) aN) aN) aN)) aN))) (aE (aE (aE (aE (aE aN (a1 h K67 aN aN)) aN) (aE (aE aN (aE (aS (fK h K377 (fK h K382 fN)) aN aN) aN)) aN)) (aE aN (aE (aE (aE aN (aE (a1 h K0 aN aN) aN)) (aE (aE (a1 h K53 aN aN) aN) aN)) (aE (aE (aE (a1 h K346 aN aN) aN) aN) (aE aN (aE (a1 h K107 aN aN) aN)))))) (aE (aE (aE (aE aN (aE (aE aN (a1 h K415 aN aN)) aN)) aN) (aE (aE (aE (aE aN (a1 h K236 aN aN)) aN) aN) aN)) (a1 h K266 (aE aN (aE aN (aE (a1 h K74 aN aN) aN))) (aE (aE (aE (a1 h K286 aN aN) aN) aN) aN))))) (aE (aE (aE (aE (aE aN (aE aN (aE (a1 h K213 aN aN) aN))) aN) (aE aN (aE aN (a1 h K55 (a1 h K114 (aE aN (a1 h K396 aN aN)) aN) (aE aN (a1 h K277 aN aN)))))) (aE (aE (a1 h K380 aN aN) aN) (aE aN (aE (aE (aE (a1 h K324 aN aN) aN) aN) (aE (aE (a1 h K329 aN aN) aN) (aE (a1 h K409 aN aN) (aE aN (a1 h K290 aN aN)))))))) (aE (aE (aE (aS (fK h K416 (fK h K426 fN)) (aE aN (aE aN (aE (aS (fK h K113 (fK h K427 fN)) aN aN) aN))) aN) (aE (aE (aE aN (aE (a1 h K234 aN aN) aN)) aN) aN)) (aE aN (aE aN (aE (aE (aE (a1 h K90 aN aN) aN) aN) aN)))) (aE aN (aE aN (aE (a1 h K381 aN aN) aN))))))
theorem B5 : CallOk P gN fact5 := orCall_ok (factCall_ok gok (A5 hm ht)) (B4 hm ht)
theorem C5 : CallOk P gN call5 := callN_ok hm paths (B5 hm ht) ht 100
end
end Ax
