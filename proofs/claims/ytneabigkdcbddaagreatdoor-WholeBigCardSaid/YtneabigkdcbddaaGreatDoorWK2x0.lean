/- Facts. -/
import Derived.Test.YtneabigkdcbddaaGreatDoorWL1
set_option maxRecDepth 100000
set_option linter.unusedVariables false
set_option linter.unusedSectionVars false
namespace Ax
def fm1 (n : Nat) : Fact := ⟨190,false,[(cG 13 0 1 1 1),(cS 14 0 1 1)],[(3,[(cI n)]),(3,[(cI 1)])],[(0,0),(0,1)],(.tup [(cS 15 0 1 1),(cG 16 0 0 1 1)]),[(3,[(cI n)]),(3,[(cI 0)])],[(0,0),(0,1)]⟩
theorem KA1b0 : chkL call1 fm1 [5,2,55,3,4,6,7,8,9,10,11,12,13,14,15,16,17,18,19,20,21,22,23,24,25,26,27,28,29,30,31,32,33,34,35,36,37,38,39,40,41,42,43,44] = true := by kernel_rfl
theorem KA1b1 : chkL call1 fm1 [45,46,47,48,49,50,51,52,53,54,56,57,58,59,60,61,62,63] = true := by kernel_rfl
def F2 : Fact := ⟨136,false,[(cX [50])],[],[],(.tup [(cP 13),cT]),[(352,[(cS 14 0 1 2)]),(348,[(cU 2),(cU 0)])],[(0,0),(1,0)]⟩
theorem K2 : chk gN gL call1 F2 = true := by kernel_rfl
def F3 : Fact := ⟨136,false,[(cX [49])],[],[],(.tup [(cP 13),cT]),[(352,[(cS 14 0 1 2)]),(348,[(cU 1),(cU 0)])],[(0,0),(1,0)]⟩
theorem K3 : chk gN gL call1 F3 = true := by kernel_rfl
def F11 : Fact := ⟨136,false,[(cX [53])],[],[],(.tup [(cP 13),cT]),[(352,[(cS 14 0 1 2)]),(348,[(cU 5),(cU 0)])],[(0,0),(1,0)]⟩
theorem K11 : chk gN gL call1 F11 = true := by kernel_rfl
def F15 : Fact := ⟨136,false,[(cX [49,48])],[],[],(.tup [(cP 13),cT]),[(352,[(cS 14 0 1 2)]),(348,[(cU 10),(cU 0)])],[(0,0),(1,0)]⟩
theorem K15 : chk gN gL call1 F15 = true := by kernel_rfl
def F19 : Fact := ⟨136,false,[(cX [52])],[],[],(.tup [(cP 13),cT]),[(352,[(cS 14 0 1 2)]),(348,[(cU 4),(cU 0)])],[(0,0),(1,0)]⟩
theorem K19 : chk gN gL call1 F19 = true := by kernel_rfl
def F97 : Fact := ⟨136,false,[(cX [50,48])],[],[],(.tup [(cP 13),cT]),[(352,[(cS 14 0 1 2)]),(348,[(cU 20),(cU 0)])],[(0,0),(1,0)]⟩
theorem K97 : chk gN gL call1 F97 = true := by kernel_rfl
def F111 : Fact := ⟨136,false,[(cX [54,48])],[],[],(.tup [(cP 13),cT]),[(352,[(cS 14 0 1 2)]),(348,[(cU 60),(cU 0)])],[(0,0),(1,0)]⟩
theorem K111 : chk gN gL call1 F111 = true := by kernel_rfl
def F348 : Fact := ⟨136,false,[(cX [51])],[],[],(.tup [(cP 13),cT]),[(352,[(cS 14 0 1 2)]),(348,[(cU 3),(cU 0)])],[(0,0),(1,0)]⟩
theorem K348 : chk gN gL call1 F348 = true := by kernel_rfl
def F383 : Fact := ⟨136,false,[(cX [55])],[],[],(.tup [(cP 13),cT]),[(352,[(cS 14 0 1 2)]),(348,[(cU 7),(cU 0)])],[(0,0),(1,0)]⟩
theorem K383 : chk gN gL call1 F383 = true := by kernel_rfl
def F398 : Fact := ⟨136,false,[(cX [51,52,48,50,56,50,51,54,54,57,50,48,57,51,56,52,54,51,52,54,51,51,55,52,54,48,55,52,51,49,55,54,56,50,49,49,52,53,54])],[],[],(.tup [(cP 13),cT]),[(352,[(cS 14 0 5 5)]),(348,[(cU 0),(cU 0),(cU 0),(cU 0),(cU 1)])],[(0,0),(1,0)]⟩
theorem K398 : chk gN gL call1 F398 = true := by kernel_rfl
def F446 : Fact := ⟨190,false,[(cS 13 0 1 1),(cS 13 0 1 1)],[(3,[(cI 1)])],[(0,0)],(.tup [(cS 14 0 1 1),(cG 15 0 0 1 1)]),[(3,[(cI 1)]),(3,[(cI 0)])],[(0,0),(0,1)]⟩
theorem K446 : chk gN gL call1 F446 = true := by kernel_rfl
def F448 : Fact := ⟨190,false,[(cG 13 0 1 1 1),(cS 14 0 1 1)],[(3,[(cI 1)]),(3,[(cI 1)])],[(0,0),(0,1)],(.tup [(cS 15 0 1 1),(cG 16 0 0 1 1)]),[(3,[(cI 1)]),(3,[(cI 0)])],[(0,0),(0,1)]⟩
theorem K448 : chk gN gL call1 F448 = true := by kernel_rfl
def F452 : Fact := ⟨190,false,[(cS 13 0 1 1),(cG 14 0 1 1 1)],[(3,[(cI 1)]),(3,[(cI 55)])],[(0,0),(0,1)],(.tup [(cS 15 0 0 1),(cS 16 0 1 1)]),[(3,[(cI 0)]),(3,[(cI 1)])],[(0,0),(0,1)]⟩
theorem K452 : chk gN gL call1 F452 = true := by kernel_rfl
def F459 : Fact := ⟨190,false,[(cS 13 0 1 1),(cS 14 0 1 1)],[(3,[(cI 1)]),(3,[(cI 1)])],[(0,0),(0,1)],(.tup [(cS 15 0 1 1),(cG 16 0 0 1 1)]),[(3,[(cI 1)]),(3,[(cI 0)])],[(0,0),(0,1)]⟩
theorem K459 : chk gN gL call1 F459 = true := by kernel_rfl
def F460 : Fact := ⟨190,false,[cZ,(cS 13 0 1 1)],[(3,[(cI 1)])],[(0,1)],(.tup [(cS 14 0 0 0),cZ]),[(3,[])],[(0,0)]⟩
theorem K460 : chk gN gL call1 F460 = true := by kernel_rfl
def F612 : Fact := ⟨190,false,[(cS 13 0 1 1),(cG 14 0 1 1 1)],[(3,[(cI 1)]),(3,[(cI 56)])],[(0,0),(0,1)],(.tup [(cS 15 0 0 1),(cS 16 0 1 1)]),[(3,[(cI 0)]),(3,[(cI 1)])],[(0,0),(0,1)]⟩
theorem K612 : chk gN gL call1 F612 = true := by kernel_rfl
def F620 : Fact := ⟨190,false,[(cS 13 0 1 1),(cG 14 0 1 1 1)],[(3,[(cI 1)]),(3,[(cI 57)])],[(0,0),(0,1)],(.tup [(cS 15 0 0 1),(cS 16 0 1 1)]),[(3,[(cI 0)]),(3,[(cI 1)])],[(0,0),(0,1)]⟩
theorem K620 : chk gN gL call1 F620 = true := by kernel_rfl
def F628 : Fact := ⟨190,false,[(cS 13 0 1 1),(cG 14 0 1 1 1)],[(3,[(cI 1)]),(3,[(cI 58)])],[(0,0),(0,1)],(.tup [(cS 15 0 0 1),(cS 16 0 1 1)]),[(3,[(cI 0)]),(3,[(cI 1)])],[(0,0),(0,1)]⟩
theorem K628 : chk gN gL call1 F628 = true := by kernel_rfl
def F635 : Fact := ⟨190,false,[(cS 13 0 1 1),(cG 14 0 1 1 1)],[(3,[(cI 1)]),(3,[(cI 59)])],[(0,0),(0,1)],(.tup [(cS 15 0 0 1),(cS 16 0 1 1)]),[(3,[(cI 0)]),(3,[(cI 1)])],[(0,0),(0,1)]⟩
theorem K635 : chk gN gL call1 F635 = true := by kernel_rfl
def F646 : Fact := ⟨190,false,[(cS 13 0 1 1),(cG 14 0 1 1 1)],[(3,[(cI 1)]),(3,[(cI 60)])],[(0,0),(0,1)],(.tup [(cS 15 0 0 1),(cS 16 0 1 1)]),[(3,[(cI 0)]),(3,[(cI 1)])],[(0,0),(0,1)]⟩
theorem K646 : chk gN gL call1 F646 = true := by kernel_rfl
def F651 : Fact := ⟨190,false,[(cS 13 0 1 1),(cG 14 0 1 1 1)],[(3,[(cI 1)]),(3,[(cI 61)])],[(0,0),(0,1)],(.tup [(cS 15 0 0 1),(cS 16 0 1 1)]),[(3,[(cI 0)]),(3,[(cI 1)])],[(0,0),(0,1)]⟩
theorem K651 : chk gN gL call1 F651 = true := by kernel_rfl
def F658 : Fact := ⟨190,false,[(cS 13 0 1 1),(cG 14 0 1 1 1)],[(3,[(cI 1)]),(3,[(cI 62)])],[(0,0),(0,1)],(.tup [(cS 15 0 0 1),(cS 16 0 1 1)]),[(3,[(cI 0)]),(3,[(cI 1)])],[(0,0),(0,1)]⟩
theorem K658 : chk gN gL call1 F658 = true := by kernel_rfl
def F665 : Fact := ⟨190,false,[(cS 13 0 1 1),(cG 14 0 1 1 1)],[(3,[(cI 1)]),(3,[(cI 63)])],[(0,0),(0,1)],(.tup [(cS 15 0 0 1),(cS 16 0 1 1)]),[(3,[(cI 0)]),(3,[(cI 1)])],[(0,0),(0,1)]⟩
theorem K665 : chk gN gL call1 F665 = true := by kernel_rfl
end Ax
