/- Facts. -/
import Derived.Test.YtneabigkdcbddaaGreatDoorNL8
set_option maxRecDepth 100000
set_option linter.unusedVariables false
set_option linter.unusedSectionVars false
namespace Ax
def F422 : Fact := ⟨98,true,[],[],[],cT,[],[]⟩
theorem K422 : chk gN gL call8 F422 = true := by kernel_rfl
end Ax
