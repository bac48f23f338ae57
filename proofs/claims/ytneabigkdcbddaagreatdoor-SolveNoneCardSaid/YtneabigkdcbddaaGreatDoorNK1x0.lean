/- Facts. -/
import Derived.Test.YtneabigkdcbddaaGreatDoorNL0
set_option maxRecDepth 100000
set_option linter.unusedVariables false
set_option linter.unusedSectionVars false
namespace Ax
def F1 : Fact := ⟨313,false,[(cX [48,49,50,51,52,53,54,55,56,57])],[],[],(.tup [(cA [cF,cF,cF,cF,cF,cF,cF,cF,cF,cF,cF,cF,cF,cF,cF,cF,cF,cF,cF,cF,cF,cF,cF,cF,cF,cF,cF,cF,cF,cF,cF,cF,cF,cF,cF,cF,cF,cF,cF,cF,cF,cF,cF,cF,cF,cF,cF,cF,cT,cT,cT,cT,cT,cT,cT,cT,cT,cT,cF,cF,cF,cF,cF,cF,cF,cF,cF,cF,cF,cF,cF,cF,cF,cF,cF,cF,cF,cF,cF,cF,cF,cF,cF,cF,cF,cF,cF,cF,cF,cF,cF,cF,cF,cF,cF,cF,cF,cF,cF,cF,cF,cF,cF,cF,cF,cF,cF,cF,cF,cF,cF,cF,cF,cF,cF,cF,cF,cF,cF,cF,cF,cF,cF,cF,cF,cF,cF,cF,cF,cF,cF,cF,cF,cF,cF,cF,cF,cF,cF,cF,cF,cF,cF,cF,cF,cF,cF,cF,cF,cF,cF,cF,cF,cF,cF,cF,cF,cF,cF,cF,cF,cF,cF,cF,cF,cF,cF,cF,cF,cF,cF,cF,cF,cF,cF,cF,cF,cF,cF,cF,cF,cF,cF,cF,cF,cF,cF,cF,cF,cF,cF,cF,cF,cF,cF,cF,cF,cF,cF,cF,cF,cF,cF,cF,cF,cF,cF,cF,cF,cF,cF,cF,cF,cF,cF,cF,cF,cF,cF,cF,cF,cF,cF,cF,cF,cF,cF,cF,cF,cF,cF,cF,cF,cF,cF,cF,cF,cF,cF,cF,cF,cF,cF,cF,cF,cF,cF,cF,cF,cF,cF,cF,cF,cF,cF,cF]),cT]),[],[]⟩
theorem K1 : chk gN gL call0 F1 = true := by kernel_rfl
def F3 : Fact := ⟨320,false,[(cW 1)],[],[],(cI 1),[],[]⟩
theorem K3 : chk gN gL call0 F3 = true := by kernel_rfl
def F57 : Fact := ⟨320,false,[(cW 10)],[],[],(cI 4),[],[]⟩
theorem K57 : chk gN gL call0 F57 = true := by kernel_rfl
def F63 : Fact := ⟨320,false,[(cW 2)],[],[],(cI 2),[],[]⟩
theorem K63 : chk gN gL call0 F63 = true := by kernel_rfl
def F72 : Fact := ⟨320,false,[(cW 8)],[],[],(cI 4),[],[]⟩
theorem K72 : chk gN gL call0 F72 = true := by kernel_rfl
def F81 : Fact := ⟨320,false,[(cW 5)],[],[],(cI 3),[],[]⟩
theorem K81 : chk gN gL call0 F81 = true := by kernel_rfl
def F91 : Fact := ⟨320,false,[(cW 4)],[],[],(cI 3),[],[]⟩
theorem K91 : chk gN gL call0 F91 = true := by kernel_rfl
def F107 : Fact := ⟨320,false,[(cW 20)],[],[],(cI 5),[],[]⟩
theorem K107 : chk gN gL call0 F107 = true := by kernel_rfl
def F113 : Fact := ⟨320,false,[(cW 12)],[],[],(cI 4),[],[]⟩
theorem K113 : chk gN gL call0 F113 = true := by kernel_rfl
def F122 : Fact := ⟨320,false,[(cW 60)],[],[],(cI 6),[],[]⟩
theorem K122 : chk gN gL call0 F122 = true := by kernel_rfl
def F153 : Fact := ⟨320,false,[(cW 6)],[],[],(cI 3),[],[]⟩
theorem K153 : chk gN gL call0 F153 = true := by kernel_rfl
def F158 : Fact := ⟨320,false,[(cW 40)],[],[],(cI 6),[],[]⟩
theorem K158 : chk gN gL call0 F158 = true := by kernel_rfl
def F212 : Fact := ⟨320,false,[(cW 3)],[],[],(cI 2),[],[]⟩
theorem K212 : chk gN gL call0 F212 = true := by kernel_rfl
def F219 : Fact := ⟨320,false,[(cW 16)],[],[],(cI 5),[],[]⟩
theorem K219 : chk gN gL call0 F219 = true := by kernel_rfl
def F267 : Fact := ⟨320,false,[(cW 30)],[],[],(cI 5),[],[]⟩
theorem K267 : chk gN gL call0 F267 = true := by kernel_rfl
def F354 : Fact := ⟨320,false,[(cW 26)],[],[],(cI 5),[],[]⟩
theorem K354 : chk gN gL call0 F354 = true := by kernel_rfl
def F401 : Fact := ⟨320,false,[(cW 9)],[],[],(cI 4),[],[]⟩
theorem K401 : chk gN gL call0 F401 = true := by kernel_rfl
def F403 : Fact := ⟨320,false,[(cW 7)],[],[],(cI 3),[],[]⟩
theorem K403 : chk gN gL call0 F403 = true := by kernel_rfl
end Ax
