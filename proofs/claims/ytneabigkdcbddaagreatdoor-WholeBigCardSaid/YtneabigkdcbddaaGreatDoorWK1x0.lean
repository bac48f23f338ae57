/- Facts. -/
import Derived.Test.YtneabigkdcbddaaGreatDoorWL0
set_option maxRecDepth 100000
set_option linter.unusedVariables false
set_option linter.unusedSectionVars false
namespace Ax
def fm0 (n : Nat) : Fact := ⟨257,false,[(cS 13 0 1 1),(cS 14 0 1 1)],[(3,[(cI 1)]),(3,[(cI n)])],[(0,0),(0,1)],(cS 15 0 1 3),[(3,[(cI n),(cI 0),(cI 0)])],[(0,0)]⟩
theorem KA0b0 : chkL call0 fm0 [5000,2500,1250,625,313,157,79,40,20,10,5,7,6,3,2,59,49,54,56,55,4,8,9,15,12,11,13,14,17,16,18,19,30,25,22,21,23,24,27,26,28,29,35,32,31,33,34,37,36,38,39,44,42,41,43,46,45,47,48,51,50,52,53,57,58,69,64,61,60,62,63] = true := by kernel_rfl
def F1 : Fact := ⟨313,false,[(cX [48,49,50,51,52,53,54,55,56,57])],[],[],(.tup [(cA [cF,cF,cF,cF,cF,cF,cF,cF,cF,cF,cF,cF,cF,cF,cF,cF,cF,cF,cF,cF,cF,cF,cF,cF,cF,cF,cF,cF,cF,cF,cF,cF,cF,cF,cF,cF,cF,cF,cF,cF,cF,cF,cF,cF,cF,cF,cF,cF,cT,cT,cT,cT,cT,cT,cT,cT,cT,cT,cF,cF,cF,cF,cF,cF,cF,cF,cF,cF,cF,cF,cF,cF,cF,cF,cF,cF,cF,cF,cF,cF,cF,cF,cF,cF,cF,cF,cF,cF,cF,cF,cF,cF,cF,cF,cF,cF,cF,cF,cF,cF,cF,cF,cF,cF,cF,cF,cF,cF,cF,cF,cF,cF,cF,cF,cF,cF,cF,cF,cF,cF,cF,cF,cF,cF,cF,cF,cF,cF,cF,cF,cF,cF,cF,cF,cF,cF,cF,cF,cF,cF,cF,cF,cF,cF,cF,cF,cF,cF,cF,cF,cF,cF,cF,cF,cF,cF,cF,cF,cF,cF,cF,cF,cF,cF,cF,cF,cF,cF,cF,cF,cF,cF,cF,cF,cF,cF,cF,cF,cF,cF,cF,cF,cF,cF,cF,cF,cF,cF,cF,cF,cF,cF,cF,cF,cF,cF,cF,cF,cF,cF,cF,cF,cF,cF,cF,cF,cF,cF,cF,cF,cF,cF,cF,cF,cF,cF,cF,cF,cF,cF,cF,cF,cF,cF,cF,cF,cF,cF,cF,cF,cF,cF,cF,cF,cF,cF,cF,cF,cF,cF,cF,cF,cF,cF,cF,cF,cF,cF,cF,cF,cF,cF,cF,cF,cF,cF]),cT]),[],[]⟩
theorem K1 : chk gN gL call0 F1 = true := by kernel_rfl
def F4 : Fact := ⟨320,false,[(cW 1)],[],[],(cI 1),[],[]⟩
theorem K4 : chk gN gL call0 F4 = true := by kernel_rfl
def F30 : Fact := ⟨320,false,[(cW 10)],[],[],(cI 4),[],[]⟩
theorem K30 : chk gN gL call0 F30 = true := by kernel_rfl
def F36 : Fact := ⟨320,false,[(cW 2)],[],[],(cI 2),[],[]⟩
theorem K36 : chk gN gL call0 F36 = true := by kernel_rfl
def F49 : Fact := ⟨320,false,[(cW 8)],[],[],(cI 4),[],[]⟩
theorem K49 : chk gN gL call0 F49 = true := by kernel_rfl
def F60 : Fact := ⟨320,false,[(cW 5)],[],[],(cI 3),[],[]⟩
theorem K60 : chk gN gL call0 F60 = true := by kernel_rfl
def F76 : Fact := ⟨320,false,[(cW 4)],[],[],(cI 3),[],[]⟩
theorem K76 : chk gN gL call0 F76 = true := by kernel_rfl
def F93 : Fact := ⟨320,false,[(cW 20)],[],[],(cI 5),[],[]⟩
theorem K93 : chk gN gL call0 F93 = true := by kernel_rfl
def F99 : Fact := ⟨320,false,[(cW 12)],[],[],(cI 4),[],[]⟩
theorem K99 : chk gN gL call0 F99 = true := by kernel_rfl
def F108 : Fact := ⟨320,false,[(cW 60)],[],[],(cI 6),[],[]⟩
theorem K108 : chk gN gL call0 F108 = true := by kernel_rfl
def F142 : Fact := ⟨320,false,[(cW 6)],[],[],(cI 3),[],[]⟩
theorem K142 : chk gN gL call0 F142 = true := by kernel_rfl
def F147 : Fact := ⟨320,false,[(cW 40)],[],[],(cI 6),[],[]⟩
theorem K147 : chk gN gL call0 F147 = true := by kernel_rfl
def F201 : Fact := ⟨320,false,[(cW 3)],[],[],(cI 2),[],[]⟩
theorem K201 : chk gN gL call0 F201 = true := by kernel_rfl
def F208 : Fact := ⟨320,false,[(cW 16)],[],[],(cI 5),[],[]⟩
theorem K208 : chk gN gL call0 F208 = true := by kernel_rfl
def F258 : Fact := ⟨320,false,[(cW 30)],[],[],(cI 5),[],[]⟩
theorem K258 : chk gN gL call0 F258 = true := by kernel_rfl
def F345 : Fact := ⟨320,false,[(cW 26)],[],[],(cI 5),[],[]⟩
theorem K345 : chk gN gL call0 F345 = true := by kernel_rfl
def F392 : Fact := ⟨320,false,[(cW 9)],[],[],(cI 4),[],[]⟩
theorem K392 : chk gN gL call0 F392 = true := by kernel_rfl
def F394 : Fact := ⟨320,false,[(cW 7)],[],[],(cI 3),[],[]⟩
theorem K394 : chk gN gL call0 F394 = true := by kernel_rfl
def F445 : Fact := ⟨257,false,[(cS 13 0 1 1),(cS 14 0 1 1)],[(3,[(cI 1)]),(3,[(cI 1)])],[(0,0),(0,1)],(cS 15 0 1 3),[(3,[(cI 1),(cI 0),(cI 0)])],[(0,0)]⟩
theorem K445 : chk gN gL call0 F445 = true := by kernel_rfl
def F462 : Fact := ⟨320,false,[(cW 55)],[],[],(cI 6),[],[]⟩
theorem K462 : chk gN gL call0 F462 = true := by kernel_rfl
def F615 : Fact := ⟨320,false,[(cW 56)],[],[],(cI 6),[],[]⟩
theorem K615 : chk gN gL call0 F615 = true := by kernel_rfl
def F623 : Fact := ⟨320,false,[(cW 57)],[],[],(cI 6),[],[]⟩
theorem K623 : chk gN gL call0 F623 = true := by kernel_rfl
def F630 : Fact := ⟨320,false,[(cW 58)],[],[],(cI 6),[],[]⟩
theorem K630 : chk gN gL call0 F630 = true := by kernel_rfl
def F641 : Fact := ⟨320,false,[(cW 59)],[],[],(cI 6),[],[]⟩
theorem K641 : chk gN gL call0 F641 = true := by kernel_rfl
def F654 : Fact := ⟨320,false,[(cW 61)],[],[],(cI 6),[],[]⟩
theorem K654 : chk gN gL call0 F654 = true := by kernel_rfl
def F661 : Fact := ⟨320,false,[(cW 62)],[],[],(cI 6),[],[]⟩
theorem K661 : chk gN gL call0 F661 = true := by kernel_rfl
def F667 : Fact := ⟨320,false,[(cW 63)],[],[],(cI 6),[],[]⟩
theorem K667 : chk gN gL call0 F667 = true := by kernel_rfl
end Ax
