/- Facts. -/
import Derived.Test.YtneabigkdcbddaaGreatDoorWL8
set_option maxRecDepth 100000
set_option linter.unusedVariables false
set_option linter.unusedSectionVars false
namespace Ax
def F414 : Fact := ⟨98,true,[],[],[],cT,[],[]⟩
theorem K414 : chk gN gL call8 F414 = true := by kernel_rfl
end Ax
