/- Facts. -/
import Derived.Test.YtneabigkdcbddaaGreatDoorWL9
set_option maxRecDepth 100000
set_option linter.unusedVariables false
set_option linter.unusedSectionVars false
namespace Ax
def F428 : Fact := ⟨10,true,[],[],[],cT,[],[]⟩
theorem K428 : chk gN gL call9 F428 = true := by kernel_rfl
end Ax
