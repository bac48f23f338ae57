/- Facts. -/
import Derived.Test.YtneabigkdcbddaaGreatDoorNL1
set_option maxRecDepth 100000
set_option linter.unusedVariables false
set_option linter.unusedSectionVars false
namespace Ax
def F2 : Fact := ⟨136,false,[(cX [49])],[],[],(.tup [(cP 13),cT]),[(352,[(cS 14 0 1 2)]),(348,[(cU 1),(cU 0)])],[(0,0),(1,0)]⟩
theorem K2 : chk gN gL call1 F2 = true := by kernel_rfl
def F34 : Fact := ⟨136,false,[(cX [50])],[],[],(.tup [(cP 13),cT]),[(352,[(cS 14 0 1 2)]),(348,[(cU 2),(cU 0)])],[(0,0),(1,0)]⟩
theorem K34 : chk gN gL call1 F34 = true := by kernel_rfl
def F38 : Fact := ⟨136,false,[(cX [53])],[],[],(.tup [(cP 13),cT]),[(352,[(cS 14 0 1 2)]),(348,[(cU 5),(cU 0)])],[(0,0),(1,0)]⟩
theorem K38 : chk gN gL call1 F38 = true := by kernel_rfl
def F42 : Fact := ⟨136,false,[(cX [49,48])],[],[],(.tup [(cP 13),cT]),[(352,[(cS 14 0 1 2)]),(348,[(cU 10),(cU 0)])],[(0,0),(1,0)]⟩
theorem K42 : chk gN gL call1 F42 = true := by kernel_rfl
def F46 : Fact := ⟨136,false,[(cX [52])],[],[],(.tup [(cP 13),cT]),[(352,[(cS 14 0 1 2)]),(348,[(cU 4),(cU 0)])],[(0,0),(1,0)]⟩
theorem K46 : chk gN gL call1 F46 = true := by kernel_rfl
def F111 : Fact := ⟨136,false,[(cX [50,48])],[],[],(.tup [(cP 13),cT]),[(352,[(cS 14 0 1 2)]),(348,[(cU 20),(cU 0)])],[(0,0),(1,0)]⟩
theorem K111 : chk gN gL call1 F111 = true := by kernel_rfl
def F357 : Fact := ⟨136,false,[(cX [51])],[],[],(.tup [(cP 13),cT]),[(352,[(cS 14 0 1 2)]),(348,[(cU 3),(cU 0)])],[(0,0),(1,0)]⟩
theorem K357 : chk gN gL call1 F357 = true := by kernel_rfl
def F392 : Fact := ⟨136,false,[(cX [55])],[],[],(.tup [(cP 13),cT]),[(352,[(cS 14 0 1 2)]),(348,[(cU 7),(cU 0)])],[(0,0),(1,0)]⟩
theorem K392 : chk gN gL call1 F392 = true := by kernel_rfl
def F407 : Fact := ⟨136,false,[(cX [51,52,48,50,56,50,51,54,54,57,50,48,57,51,56,52,54,51,52,54,51,51,55,52,54,48,55,52,51,49,55,54,56,50,49,49,52,53,54])],[],[],(.tup [(cP 13),cT]),[(352,[(cS 14 0 5 5)]),(348,[(cU 0),(cU 0),(cU 0),(cU 0),(cU 1)])],[(0,0),(1,0)]⟩
theorem K407 : chk gN gL call1 F407 = true := by kernel_rfl
end Ax
