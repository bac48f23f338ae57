/- Facts. -/
import Derived.Test.YtneabigkdcbddaaGreatDoorNL2
set_option maxRecDepth 100000
set_option linter.unusedVariables false
set_option linter.unusedSectionVars false
namespace Ax
def F4 : Fact := ⟨179,true,[cF,(cP 13),(cP 14)],[(352,[(cS 15 0 1 2)]),(352,[(cS 16 0 1 2)]),(348,[(cU 1),(cU 0)]),(348,[(cU 1),(cU 0)])],[(0,1),(0,2),(1,0),(2,0)],(.tup [(cP 17),cT]),[(281,[cF,(cP 13),(cP 14)])],[(0,0)]⟩
theorem K4 : chk gN gL call2 F4 = true := by kernel_rfl
def F10 : Fact := ⟨179,true,[cF,(cP 13),(cP 14)],[(352,[(cS 15 0 0 1)]),(352,[(cS 16 0 1 2)]),(348,[(cU 0)]),(348,[(cU 1),(cU 0)])],[(0,1),(0,2),(1,0),(2,0)],(.tup [(cP 17),cT]),[(281,[cF,(cP 13),(cP 14)])],[(0,0)]⟩
theorem K10 : chk gN gL call2 F10 = true := by kernel_rfl
def F15 : Fact := ⟨179,true,[cF,(cP 13),(cP 14)],[(352,[(cS 15 0 0 0)]),(352,[(cS 16 0 1 2)]),(348,[]),(348,[(cU 1),(cU 0)])],[(0,1),(0,2),(1,0),(2,0)],(.tup [(cP 17),cT]),[(281,[cF,(cP 13),(cP 14)])],[(0,0)]⟩
theorem K15 : chk gN gL call2 F15 = true := by kernel_rfl
def F35 : Fact := ⟨179,true,[cF,(cP 13),(cP 14)],[(352,[(cS 15 0 1 2)]),(352,[(cS 16 0 1 2)]),(348,[(cU 2),(cU 0)]),(348,[(cU 1),(cU 0)])],[(0,1),(0,2),(1,0),(2,0)],(.tup [(cP 17),cT]),[(281,[cF,(cP 13),(cP 14)])],[(0,0)]⟩
theorem K35 : chk gN gL call2 F35 = true := by kernel_rfl
def F39 : Fact := ⟨179,true,[cF,(cP 13),(cP 14)],[(352,[(cS 15 0 1 2)]),(352,[(cS 16 0 1 2)]),(348,[(cU 5),(cU 0)]),(348,[(cU 1),(cU 0)])],[(0,1),(0,2),(1,0),(2,0)],(.tup [(cP 17),cT]),[(281,[cF,(cP 13),(cP 14)])],[(0,0)]⟩
theorem K39 : chk gN gL call2 F39 = true := by kernel_rfl
def F43 : Fact := ⟨179,true,[cF,(cP 13),(cP 14)],[(352,[(cS 15 0 1 2)]),(352,[(cS 16 0 1 2)]),(348,[(cU 10),(cU 0)]),(348,[(cU 1),(cU 0)])],[(0,1),(0,2),(1,0),(2,0)],(.tup [(cP 17),cT]),[(281,[cF,(cP 13),(cP 14)])],[(0,0)]⟩
theorem K43 : chk gN gL call2 F43 = true := by kernel_rfl
def F47 : Fact := ⟨179,true,[cF,(cP 13),(cP 14)],[(352,[(cS 15 0 1 2)]),(352,[(cS 16 0 1 2)]),(348,[(cU 4),(cU 0)]),(348,[(cU 1),(cU 0)])],[(0,1),(0,2),(1,0),(2,0)],(.tup [(cP 17),cT]),[(281,[cF,(cP 13),(cP 14)])],[(0,0)]⟩
theorem K47 : chk gN gL call2 F47 = true := by kernel_rfl
def F50 : Fact := ⟨179,true,[cF,(cP 13),(cP 14)],[(352,[(cS 15 0 1 2)]),(352,[(cS 16 0 1 2)]),(348,[(cU 8),(cU 0)]),(348,[(cU 1),(cU 0)])],[(0,1),(0,2),(1,0),(2,0)],(.tup [(cP 17),cT]),[(281,[cF,(cP 13),(cP 14)])],[(0,0)]⟩
theorem K50 : chk gN gL call2 F50 = true := by kernel_rfl
def F58 : Fact := ⟨179,true,[cF,(cP 13),(cP 14)],[(352,[(cS 15 0 1 2)]),(352,[(cS 16 0 1 2)]),(348,[(cU 5),(cU 0)]),(348,[(cU 10),(cU 0)])],[(0,1),(0,2),(1,0),(2,0)],(.tup [(cP 17),cT]),[(281,[cF,(cP 18),(cP 19)]),(352,[(cS 20 0 1 1)]),(352,[(cS 21 0 1 1)]),(348,[(cU 1)]),(348,[(cU 2)])],[(0,0),(5,1),(5,2),(6,0),(7,0)]⟩
theorem K58 : chk gN gL call2 F58 = true := by kernel_rfl
def F60 : Fact := ⟨179,true,[cF,(cP 13),(cP 14)],[(352,[(cS 15 0 1 2)]),(352,[(cS 16 0 1 2)]),(348,[(cU 12),(cU 0)]),(348,[(cU 1),(cU 0)])],[(0,1),(0,2),(1,0),(2,0)],(.tup [(cP 17),cT]),[(281,[cF,(cP 13),(cP 14)])],[(0,0)]⟩
theorem K60 : chk gN gL call2 F60 = true := by kernel_rfl
def F64 : Fact := ⟨179,true,[cF,(cP 13),(cP 14)],[(352,[(cS 15 0 1 2)]),(352,[(cS 16 0 1 2)]),(348,[(cU 1),(cU 0)]),(348,[(cU 2),(cU 0)])],[(0,1),(0,2),(1,0),(2,0)],(.tup [(cP 17),cT]),[(281,[cF,(cP 13),(cP 14)])],[(0,0)]⟩
theorem K64 : chk gN gL call2 F64 = true := by kernel_rfl
def F67 : Fact := ⟨179,true,[cF,(cP 13),(cP 14)],[(352,[(cS 15 0 1 2)]),(352,[(cS 16 0 1 2)]),(348,[(cU 2),(cU 0)]),(348,[(cU 2),(cU 0)])],[(0,1),(0,2),(1,0),(2,0)],(.tup [(cP 17),cT]),[(281,[cF,(cP 18),(cP 19)]),(352,[(cS 20 0 1 1)]),(352,[(cS 21 0 1 1)]),(348,[(cU 1)]),(348,[(cU 1)])],[(0,0),(5,1),(5,2),(6,0),(7,0)]⟩
theorem K67 : chk gN gL call2 F67 = true := by kernel_rfl
def F69 : Fact := ⟨179,true,[cF,(cP 13),(cP 14)],[(352,[(cS 15 0 0 1)]),(352,[(cS 16 0 1 1)]),(348,[(cU 0)]),(348,[(cU 1)])],[(0,1),(0,2),(1,0),(2,0)],(.tup [(cP 17),cT]),[(281,[cF,(cP 13),(cP 14)])],[(0,0)]⟩
theorem K69 : chk gN gL call2 F69 = true := by kernel_rfl
def F82 : Fact := ⟨179,true,[cT,(cP 13),(cP 14)],[(352,[(cS 15 0 1 2)]),(352,[(cS 16 0 1 2)]),(348,[(cU 5),(cU 0)]),(348,[(cU 1),(cU 0)])],[(0,1),(0,2),(1,0),(2,0)],(.tup [(cP 17),cT]),[(281,[cT,(cP 13),(cP 14)])],[(0,0)]⟩
theorem K82 : chk gN gL call2 F82 = true := by kernel_rfl
def F86 : Fact := ⟨179,true,[cT,(cP 13),(cP 14)],[(352,[(cS 15 0 1 2)]),(352,[(cS 16 0 1 2)]),(348,[(cU 10),(cU 0)]),(348,[(cU 1),(cU 0)])],[(0,1),(0,2),(1,0),(2,0)],(.tup [(cP 17),cT]),[(281,[cT,(cP 13),(cP 14)])],[(0,0)]⟩
theorem K86 : chk gN gL call2 F86 = true := by kernel_rfl
def F93 : Fact := ⟨179,true,[cT,(cP 13),(cP 14)],[(352,[(cS 15 0 1 2)]),(352,[(cS 16 0 1 2)]),(348,[(cU 4),(cU 0)]),(348,[(cU 1),(cU 0)])],[(0,1),(0,2),(1,0),(2,0)],(.tup [(cP 17),cT]),[(281,[cT,(cP 13),(cP 14)])],[(0,0)]⟩
theorem K93 : chk gN gL call2 F93 = true := by kernel_rfl
def F100 : Fact := ⟨179,true,[cF,(cP 13),(cP 14)],[(352,[(cS 15 0 1 2)]),(352,[(cS 16 0 1 2)]),(348,[(cU 20),(cU 0)]),(348,[(cU 1),(cU 0)])],[(0,1),(0,2),(1,0),(2,0)],(.tup [(cP 17),cT]),[(281,[cF,(cP 13),(cP 14)])],[(0,0)]⟩
theorem K100 : chk gN gL call2 F100 = true := by kernel_rfl
def F117 : Fact := ⟨179,true,[cF,(cP 13),(cP 14)],[(352,[(cS 15 0 1 2)]),(352,[(cS 16 0 1 2)]),(348,[(cU 60),(cU 0)]),(348,[(cU 1),(cU 0)])],[(0,1),(0,2),(1,0),(2,0)],(.tup [(cP 17),cT]),[(281,[cF,(cP 13),(cP 14)])],[(0,0)]⟩
theorem K117 : chk gN gL call2 F117 = true := by kernel_rfl
def F129 : Fact := ⟨179,true,[cT,(cP 13),(cP 14)],[(352,[(cS 15 0 1 2)]),(352,[(cS 16 0 1 2)]),(348,[(cU 20),(cU 0)]),(348,[(cU 1),(cU 0)])],[(0,1),(0,2),(1,0),(2,0)],(.tup [(cP 17),cT]),[(281,[cT,(cP 13),(cP 14)])],[(0,0)]⟩
theorem K129 : chk gN gL call2 F129 = true := by kernel_rfl
def F133 : Fact := ⟨179,true,[cF,(cP 13),(cP 14)],[(352,[(cS 15 0 1 2)]),(352,[(cS 16 0 1 2)]),(348,[(cU 20),(cU 0)]),(348,[(cU 5),(cU 0)])],[(0,1),(0,2),(1,0),(2,0)],(.tup [(cP 17),cT]),[(281,[cF,(cP 18),(cP 19)]),(352,[(cS 20 0 1 1)]),(352,[(cS 21 0 1 1)]),(348,[(cU 4)]),(348,[(cU 1)])],[(0,0),(5,1),(5,2),(6,0),(7,0)]⟩
theorem K133 : chk gN gL call2 F133 = true := by kernel_rfl
def F135 : Fact := ⟨179,true,[cF,(cP 13),(cP 14)],[(352,[(cS 15 0 1 1)]),(352,[(cS 16 0 1 1)]),(348,[(cU 4)]),(348,[(cU 1)])],[(0,1),(0,2),(1,0),(2,0)],(.tup [(cP 17),cT]),[(281,[cF,(cP 13),(cP 14)])],[(0,0)]⟩
theorem K135 : chk gN gL call2 F135 = true := by kernel_rfl
def F140 : Fact := ⟨179,true,[cF,(cP 13),(cP 14)],[(352,[(cS 15 0 1 2)]),(352,[(cS 16 0 1 2)]),(348,[(cU 1),(cU 0)]),(348,[(cU 5),(cU 0)])],[(0,1),(0,2),(1,0),(2,0)],(.tup [(cP 17),cT]),[(281,[cF,(cP 13),(cP 14)])],[(0,0)]⟩
theorem K140 : chk gN gL call2 F140 = true := by kernel_rfl
def F142 : Fact := ⟨179,true,[cT,(cP 13),(cP 14)],[(352,[(cS 15 0 1 2)]),(352,[(cS 16 0 1 2)]),(348,[(cU 1),(cU 0)]),(348,[(cU 5),(cU 0)])],[(0,1),(0,2),(1,0),(2,0)],(.tup [(cP 17),cT]),[(281,[cT,(cP 13),(cP 14)])],[(0,0)]⟩
theorem K142 : chk gN gL call2 F142 = true := by kernel_rfl
def F147 : Fact := ⟨179,true,[cF,(cP 13),(cP 14)],[(352,[(cS 15 0 1 2)]),(352,[(cS 16 0 1 2)]),(348,[(cU 5),(cU 0)]),(348,[(cU 5),(cU 0)])],[(0,1),(0,2),(1,0),(2,0)],(.tup [(cP 17),cT]),[(281,[cF,(cP 18),(cP 19)]),(352,[(cS 20 0 1 1)]),(352,[(cS 21 0 1 1)]),(348,[(cU 1)]),(348,[(cU 1)])],[(0,0),(5,1),(5,2),(6,0),(7,0)]⟩
theorem K147 : chk gN gL call2 F147 = true := by kernel_rfl
def F149 : Fact := ⟨179,true,[cT,(cP 13),(cP 14)],[(352,[(cS 15 0 1 2)]),(352,[(cS 16 0 1 2)]),(348,[(cU 5),(cU 0)]),(348,[(cU 5),(cU 0)])],[(0,1),(0,2),(1,0),(2,0)],(.tup [(cP 17),cT]),[(281,[cT,(cP 18),(cP 19)]),(352,[(cS 20 0 1 1)]),(352,[(cS 21 0 1 1)]),(348,[(cU 1)]),(348,[(cU 1)])],[(0,0),(5,1),(5,2),(6,0),(7,0)]⟩
theorem K149 : chk gN gL call2 F149 = true := by kernel_rfl
def F151 : Fact := ⟨179,true,[cT,(cP 13),(cP 14)],[(352,[(cS 15 0 1 1)]),(352,[(cS 16 0 1 1)]),(348,[(cU 1)]),(348,[(cU 1)])],[(0,1),(0,2),(1,0),(2,0)],(.tup [(cP 17),cT]),[(281,[cT,(cP 13),(cP 14)])],[(0,0)]⟩
theorem K151 : chk gN gL call2 F151 = true := by kernel_rfl
def F154 : Fact := ⟨179,true,[cT,(cP 13),(cP 14)],[(352,[(cS 15 0 1 1)]),(352,[(cS 16 0 1 2)]),(348,[(cU 6)]),(348,[(cU 1),(cU 0)])],[(0,1),(0,2),(1,0),(2,0)],(.tup [(cP 17),cT]),[(281,[cT,(cP 13),(cP 14)])],[(0,0)]⟩
theorem K154 : chk gN gL call2 F154 = true := by kernel_rfl
def F159 : Fact := ⟨179,true,[cT,(cP 13),(cP 14)],[(352,[(cS 15 0 1 1)]),(352,[(cS 16 0 1 2)]),(348,[(cU 40)]),(348,[(cU 1),(cU 0)])],[(0,1),(0,2),(1,0),(2,0)],(.tup [(cP 17),cT]),[(281,[cT,(cP 13),(cP 14)])],[(0,0)]⟩
theorem K159 : chk gN gL call2 F159 = true := by kernel_rfl
def F162 : Fact := ⟨179,true,[cT,(cP 13),(cP 14)],[(352,[(cS 15 0 1 2)]),(352,[(cS 16 0 1 2)]),(348,[(cU 40),(cU 0)]),(348,[(cU 1),(cU 0)])],[(0,1),(0,2),(1,0),(2,0)],(.tup [(cP 17),cT]),[(281,[cT,(cP 13),(cP 14)])],[(0,0)]⟩
theorem K162 : chk gN gL call2 F162 = true := by kernel_rfl
def F165 : Fact := ⟨179,true,[cF,(cP 13),(cP 14)],[(352,[(cS 15 0 1 2)]),(352,[(cS 16 0 1 2)]),(348,[(cU 40),(cU 0)]),(348,[(cU 5),(cU 0)])],[(0,1),(0,2),(1,0),(2,0)],(.tup [(cP 17),cT]),[(281,[cF,(cP 18),(cP 19)]),(352,[(cS 20 0 1 1)]),(352,[(cS 21 0 1 1)]),(348,[(cU 8)]),(348,[(cU 1)])],[(0,0),(5,1),(5,2),(6,0),(7,0)]⟩
theorem K165 : chk gN gL call2 F165 = true := by kernel_rfl
def F168 : Fact := ⟨179,true,[cF,(cP 13),(cP 14)],[(352,[(cS 15 0 1 2)]),(352,[(cS 16 0 1 1)]),(348,[(cU 12),(cU 0)]),(348,[(cU 1)])],[(0,1),(0,2),(1,0),(2,0)],(.tup [(cP 17),cT]),[(281,[cF,(cP 13),(cP 14)])],[(0,0)]⟩
theorem K168 : chk gN gL call2 F168 = true := by kernel_rfl
def F170 : Fact := ⟨179,true,[cF,(cP 13),(cP 14)],[(352,[(cS 15 0 1 2)]),(352,[(cS 16 0 1 2)]),(348,[(cU 40),(cU 0)]),(348,[(cU 1),(cU 0)])],[(0,1),(0,2),(1,0),(2,0)],(.tup [(cP 17),cT]),[(281,[cF,(cP 13),(cP 14)])],[(0,0)]⟩
theorem K170 : chk gN gL call2 F170 = true := by kernel_rfl
def F174 : Fact := ⟨179,true,[cT,(cP 13),(cP 14)],[(352,[(cS 15 0 1 2)]),(352,[(cS 16 0 1 2)]),(348,[(cU 1),(cU 0)]),(348,[(cU 1),(cU 0)])],[(0,1),(0,2),(1,0),(2,0)],(.tup [(cP 17),cT]),[(281,[cT,(cP 13),(cP 14)])],[(0,0)]⟩
theorem K174 : chk gN gL call2 F174 = true := by kernel_rfl
def F178 : Fact := ⟨179,true,[cF,(cP 13),(cP 14)],[(352,[(cS 15 0 0 1)]),(352,[(cS 16 0 1 2)]),(348,[(cU 0)]),(348,[(cU 5),(cU 0)])],[(0,1),(0,2),(1,0),(2,0)],(.tup [(cP 17),cT]),[(281,[cF,(cP 18),(cP 19)]),(352,[cZ]),(352,[(cS 20 0 1 1)]),(348,[(cU 1)])],[(0,0),(5,1),(5,2),(7,0)]⟩
theorem K178 : chk gN gL call2 F178 = true := by kernel_rfl
def F181 : Fact := ⟨179,true,[cF,(cP 13),(cP 14)],[(352,[(cS 15 0 1 1)]),(352,[(cS 16 0 1 2)]),(348,[(cU 2)]),(348,[(cU 1),(cU 0)])],[(0,1),(0,2),(1,0),(2,0)],(.tup [(cP 17),cT]),[(281,[cF,(cP 13),(cP 14)])],[(0,0)]⟩
theorem K181 : chk gN gL call2 F181 = true := by kernel_rfl
def F186 : Fact := ⟨179,true,[cT,(cP 13),(cP 14)],[(352,[(cS 15 0 1 1)]),(352,[(cS 16 0 1 2)]),(348,[(cU 4)]),(348,[(cU 1),(cU 0)])],[(0,1),(0,2),(1,0),(2,0)],(.tup [(cP 17),cT]),[(281,[cT,(cP 13),(cP 14)])],[(0,0)]⟩
theorem K186 : chk gN gL call2 F186 = true := by kernel_rfl
def F189 : Fact := ⟨179,true,[cT,(cP 13),(cP 14)],[(352,[(cS 15 0 1 2)]),(352,[(cS 16 0 1 2)]),(348,[(cU 20),(cU 0)]),(348,[(cU 5),(cU 0)])],[(0,1),(0,2),(1,0),(2,0)],(.tup [(cP 17),cT]),[(281,[cT,(cP 18),(cP 19)]),(352,[(cS 20 0 1 1)]),(352,[(cS 21 0 1 1)]),(348,[(cU 4)]),(348,[(cU 1)])],[(0,0),(5,1),(5,2),(6,0),(7,0)]⟩
theorem K189 : chk gN gL call2 F189 = true := by kernel_rfl
def F192 : Fact := ⟨179,true,[cF,(cP 13),(cP 14)],[(352,[(cS 15 0 1 1)]),(352,[(cS 16 0 1 1)]),(348,[(cU 8)]),(348,[(cU 1)])],[(0,1),(0,2),(1,0),(2,0)],(.tup [(cP 17),cT]),[(281,[cF,(cP 13),(cP 14)])],[(0,0)]⟩
theorem K192 : chk gN gL call2 F192 = true := by kernel_rfl
def F195 : Fact := ⟨179,true,[cT,(cP 13),(cP 14)],[(352,[(cS 15 0 1 1)]),(352,[(cS 16 0 1 2)]),(348,[(cU 20)]),(348,[(cU 1),(cU 0)])],[(0,1),(0,2),(1,0),(2,0)],(.tup [(cP 17),cT]),[(281,[cT,(cP 13),(cP 14)])],[(0,0)]⟩
theorem K195 : chk gN gL call2 F195 = true := by kernel_rfl
def F202 : Fact := ⟨179,true,[cT,(cP 13),(cP 14)],[(352,[(cS 15 0 0 1)]),(352,[(cS 16 0 1 2)]),(348,[(cU 0)]),(348,[(cU 1),(cU 0)])],[(0,1),(0,2),(1,0),(2,0)],(.tup [(cP 17),cT]),[(281,[cF,(cP 13),(cP 14)])],[(0,0)]⟩
theorem K202 : chk gN gL call2 F202 = true := by kernel_rfl
def F205 : Fact := ⟨179,true,[cT,(cP 13),(cP 14)],[(352,[(cS 15 0 1 1)]),(352,[(cS 16 0 1 2)]),(348,[(cU 2)]),(348,[(cU 1),(cU 0)])],[(0,1),(0,2),(1,0),(2,0)],(.tup [(cP 17),cT]),[(281,[cT,(cP 13),(cP 14)])],[(0,0)]⟩
theorem K205 : chk gN gL call2 F205 = true := by kernel_rfl
def F208 : Fact := ⟨179,true,[cT,(cP 13),(cP 14)],[(352,[(cS 15 0 1 2)]),(352,[(cS 16 0 1 2)]),(348,[(cU 5),(cU 0)]),(348,[(cU 2),(cU 0)])],[(0,1),(0,2),(1,0),(2,0)],(.tup [(cP 17),cT]),[(281,[cT,(cP 13),(cP 14)])],[(0,0)]⟩
theorem K208 : chk gN gL call2 F208 = true := by kernel_rfl
def F216 : Fact := ⟨179,true,[cF,(cP 13),(cP 14)],[(352,[(cS 15 0 1 2)]),(352,[(cS 16 0 1 2)]),(348,[(cU 16),(cU 0)]),(348,[(cU 1),(cU 0)])],[(0,1),(0,2),(1,0),(2,0)],(.tup [(cP 17),cT]),[(281,[cF,(cP 13),(cP 14)])],[(0,0)]⟩
theorem K216 : chk gN gL call2 F216 = true := by kernel_rfl
def F220 : Fact := ⟨179,true,[cF,(cP 13),(cP 14)],[(352,[(cS 15 0 1 1)]),(352,[(cS 16 0 1 2)]),(348,[(cU 6)]),(348,[(cU 1),(cU 0)])],[(0,1),(0,2),(1,0),(2,0)],(.tup [(cP 17),cT]),[(281,[cF,(cP 13),(cP 14)])],[(0,0)]⟩
theorem K220 : chk gN gL call2 F220 = true := by kernel_rfl
def F221 : Fact := ⟨179,true,[cF,(cP 13),(cP 14)],[(352,[(cS 15 0 1 2)]),(352,[(cS 16 0 1 2)]),(348,[(cU 20),(cU 0)]),(348,[(cU 2),(cU 0)])],[(0,1),(0,2),(1,0),(2,0)],(.tup [(cP 17),cT]),[(281,[cF,(cP 18),(cP 19)]),(352,[(cS 20 0 1 1)]),(352,[(cS 21 0 1 1)]),(348,[(cU 10)]),(348,[(cU 1)])],[(0,0),(5,1),(5,2),(6,0),(7,0)]⟩
theorem K221 : chk gN gL call2 F221 = true := by kernel_rfl
def F236 : Fact := ⟨179,true,[cF,(cP 13),(cP 14)],[(352,[(cS 15 0 1 1)]),(352,[(cS 16 0 1 2)]),(348,[(cU 4)]),(348,[(cU 1),(cU 0)])],[(0,1),(0,2),(1,0),(2,0)],(.tup [(cP 17),cT]),[(281,[cF,(cP 13),(cP 14)])],[(0,0)]⟩
theorem K236 : chk gN gL call2 F236 = true := by kernel_rfl
def F239 : Fact := ⟨179,true,[cF,(cP 13),(cP 14)],[(352,[(cS 15 0 0 1)]),(352,[(cS 16 0 1 2)]),(348,[(cU 0)]),(348,[(cU 2),(cU 0)])],[(0,1),(0,2),(1,0),(2,0)],(.tup [(cP 17),cT]),[(281,[cF,(cP 18),(cP 19)]),(352,[cZ]),(352,[(cS 20 0 1 1)]),(348,[(cU 1)])],[(0,0),(5,1),(5,2),(7,0)]⟩
theorem K239 : chk gN gL call2 F239 = true := by kernel_rfl
def F242 : Fact := ⟨179,true,[cF,(cP 13),(cP 14)],[(352,[(cS 15 0 1 2)]),(352,[(cS 16 0 1 2)]),(348,[(cU 26),(cU 0)]),(348,[(cU 1),(cU 0)])],[(0,1),(0,2),(1,0),(2,0)],(.tup [(cP 17),cT]),[(281,[cF,(cP 13),(cP 14)])],[(0,0)]⟩
theorem K242 : chk gN gL call2 F242 = true := by kernel_rfl
def F249 : Fact := ⟨179,true,[cF,(cP 13),(cP 14)],[(352,[(cS 15 0 1 2)]),(352,[(cS 16 0 1 1)]),(348,[(cU 8),(cU 0)]),(348,[(cU 1)])],[(0,1),(0,2),(1,0),(2,0)],(.tup [(cP 17),cT]),[(281,[cF,(cP 13),(cP 14)])],[(0,0)]⟩
theorem K249 : chk gN gL call2 F249 = true := by kernel_rfl
def F251 : Fact := ⟨179,true,[cF,(cP 13),(cP 14)],[(352,[(cS 15 0 1 1)]),(352,[(cS 16 0 1 2)]),(348,[(cU 20)]),(348,[(cU 1),(cU 0)])],[(0,1),(0,2),(1,0),(2,0)],(.tup [(cP 17),cT]),[(281,[cF,(cP 13),(cP 14)])],[(0,0)]⟩
theorem K251 : chk gN gL call2 F251 = true := by kernel_rfl
def F259 : Fact := ⟨179,true,[cT,(cP 13),(cP 14)],[(352,[(cS 15 0 1 2)]),(352,[(cS 16 0 1 2)]),(348,[(cU 1),(cU 0)]),(348,[(cU 2),(cU 0)])],[(0,1),(0,2),(1,0),(2,0)],(.tup [(cP 17),cT]),[(281,[cT,(cP 13),(cP 14)])],[(0,0)]⟩
theorem K259 : chk gN gL call2 F259 = true := by kernel_rfl
def F262 : Fact := ⟨179,true,[cF,(cP 13),(cP 14)],[(352,[(cS 15 0 1 2)]),(352,[(cS 16 0 1 2)]),(348,[(cU 2),(cU 0)]),(348,[(cU 5),(cU 0)])],[(0,1),(0,2),(1,0),(2,0)],(.tup [(cP 17),cT]),[(281,[cF,(cP 13),(cP 14)])],[(0,0)]⟩
theorem K262 : chk gN gL call2 F262 = true := by kernel_rfl
def F265 : Fact := ⟨179,true,[cF,(cP 13),(cP 14)],[(352,[(cS 15 0 1 2)]),(352,[(cS 16 0 1 2)]),(348,[(cU 30),(cU 0)]),(348,[(cU 1),(cU 0)])],[(0,1),(0,2),(1,0),(2,0)],(.tup [(cP 17),cT]),[(281,[cF,(cP 13),(cP 14)])],[(0,0)]⟩
theorem K265 : chk gN gL call2 F265 = true := by kernel_rfl
def F281 : Fact := ⟨179,true,[cT,(cP 13),(cP 14)],[(352,[(cS 15 0 1 2)]),(352,[(cS 16 0 1 2)]),(348,[(cU 2),(cU 0)]),(348,[(cU 1),(cU 0)])],[(0,1),(0,2),(1,0),(2,0)],(.tup [(cP 17),cT]),[(281,[cT,(cP 13),(cP 14)])],[(0,0)]⟩
theorem K281 : chk gN gL call2 F281 = true := by kernel_rfl
def F287 : Fact := ⟨179,true,[cF,(cP 13),(cP 14)],[(352,[(cS 15 0 1 2)]),(352,[(cS 16 0 1 2)]),(348,[(cU 5),(cU 0)]),(348,[(cU 2),(cU 0)])],[(0,1),(0,2),(1,0),(2,0)],(.tup [(cP 17),cT]),[(281,[cF,(cP 13),(cP 14)])],[(0,0)]⟩
theorem K287 : chk gN gL call2 F287 = true := by kernel_rfl
def F296 : Fact := ⟨179,true,[cF,(cP 13),(cP 14)],[(352,[(cS 15 0 1 1)]),(352,[(cS 16 0 1 1)]),(348,[(cU 10)]),(348,[(cU 1)])],[(0,1),(0,2),(1,0),(2,0)],(.tup [(cP 17),cT]),[(281,[cF,(cP 13),(cP 14)])],[(0,0)]⟩
theorem K296 : chk gN gL call2 F296 = true := by kernel_rfl
def F301 : Fact := ⟨179,true,[cF,(cP 13),(cP 14)],[(352,[cZ]),(352,[(cS 15 0 1 1)]),(348,[(cU 1)])],[(0,1),(0,2),(2,0)],(.tup [(cP 16),cT]),[(281,[cF,(cP 13),(cP 14)])],[(0,0)]⟩
theorem K301 : chk gN gL call2 F301 = true := by kernel_rfl
def F312 : Fact := ⟨179,true,[cT,(cP 13),(cP 14)],[(352,[(cS 15 0 1 2)]),(352,[(cS 16 0 1 2)]),(348,[(cU 1),(cU 0)]),(348,[(cU 10),(cU 0)])],[(0,1),(0,2),(1,0),(2,0)],(.tup [(cP 17),cT]),[(281,[cT,(cP 13),(cP 14)])],[(0,0)]⟩
theorem K312 : chk gN gL call2 F312 = true := by kernel_rfl
def F316 : Fact := ⟨179,true,[cT,(cP 13),(cP 14)],[(352,[(cS 15 0 1 2)]),(352,[(cS 16 0 1 2)]),(348,[(cU 2),(cU 0)]),(348,[(cU 10),(cU 0)])],[(0,1),(0,2),(1,0),(2,0)],(.tup [(cP 17),cT]),[(281,[cT,(cP 18),(cP 19)]),(352,[(cS 20 0 1 1)]),(352,[(cS 21 0 1 1)]),(348,[(cU 1)]),(348,[(cU 5)])],[(0,0),(5,1),(5,2),(6,0),(7,0)]⟩
theorem K316 : chk gN gL call2 F316 = true := by kernel_rfl
def F320 : Fact := ⟨179,true,[cT,(cP 13),(cP 14)],[(352,[(cS 15 0 0 1)]),(352,[(cS 16 0 1 2)]),(348,[(cU 0)]),(348,[(cU 10),(cU 0)])],[(0,1),(0,2),(1,0),(2,0)],(.tup [(cP 17),cT]),[(281,[cF,(cP 18),(cP 19)]),(352,[cZ]),(352,[(cS 20 0 1 1)]),(348,[(cU 1)])],[(0,0),(5,1),(5,2),(7,0)]⟩
theorem K320 : chk gN gL call2 F320 = true := by kernel_rfl
def F322 : Fact := ⟨179,true,[cF,(cP 13),(cP 14)],[(352,[(cS 15 0 1 2)]),(352,[(cS 16 0 1 2)]),(348,[(cU 10),(cU 0)]),(348,[(cU 10),(cU 0)])],[(0,1),(0,2),(1,0),(2,0)],(.tup [(cP 17),cT]),[(281,[cF,(cP 18),(cP 19)]),(352,[(cS 20 0 1 1)]),(352,[(cS 21 0 1 1)]),(348,[(cU 1)]),(348,[(cU 1)])],[(0,0),(5,1),(5,2),(6,0),(7,0)]⟩
theorem K322 : chk gN gL call2 F322 = true := by kernel_rfl
def F326 : Fact := ⟨179,true,[cF,(cP 13),(cP 14)],[(352,[(cS 15 0 1 1)]),(352,[(cS 16 0 1 1)]),(348,[(cU 1)]),(348,[(cU 1)])],[(0,1),(0,2),(1,0),(2,0)],(.tup [(cP 17),cT]),[(281,[cF,(cP 13),(cP 14)])],[(0,0)]⟩
theorem K326 : chk gN gL call2 F326 = true := by kernel_rfl
def F328 : Fact := ⟨179,true,[cT,(cP 13),(cP 14)],[(352,[(cS 15 0 1 2)]),(352,[(cS 16 0 1 2)]),(348,[(cU 10),(cU 0)]),(348,[(cU 2),(cU 0)])],[(0,1),(0,2),(1,0),(2,0)],(.tup [(cP 17),cT]),[(281,[cT,(cP 18),(cP 19)]),(352,[(cS 20 0 1 1)]),(352,[(cS 21 0 1 1)]),(348,[(cU 5)]),(348,[(cU 1)])],[(0,0),(5,1),(5,2),(6,0),(7,0)]⟩
theorem K328 : chk gN gL call2 F328 = true := by kernel_rfl
def F335 : Fact := ⟨179,true,[cF,(cP 13),(cP 14)],[(352,[(cS 15 0 1 1)]),(352,[(cS 16 0 1 1)]),(348,[(cU 30)]),(348,[(cU 1)])],[(0,1),(0,2),(1,0),(2,0)],(.tup [(cP 17),cT]),[(281,[cF,(cP 13),(cP 14)])],[(0,0)]⟩
theorem K335 : chk gN gL call2 F335 = true := by kernel_rfl
def F343 : Fact := ⟨179,true,[cF,(cP 13),(cP 14)],[(352,[(cS 15 0 1 2)]),(352,[(cS 16 0 1 1)]),(348,[(cU 30),(cU 0)]),(348,[(cU 1)])],[(0,1),(0,2),(1,0),(2,0)],(.tup [(cP 17),cT]),[(281,[cF,(cP 13),(cP 14)])],[(0,0)]⟩
theorem K343 : chk gN gL call2 F343 = true := by kernel_rfl
def F347 : Fact := ⟨179,true,[cF,(cP 13),(cP 14)],[(352,[(cS 15 0 1 2)]),(352,[(cS 16 0 1 2)]),(348,[(cU 4),(cU 0)]),(348,[(cU 5),(cU 0)])],[(0,1),(0,2),(1,0),(2,0)],(.tup [(cP 17),cT]),[(281,[cF,(cP 13),(cP 14)])],[(0,0)]⟩
theorem K347 : chk gN gL call2 F347 = true := by kernel_rfl
def F348 : Fact := ⟨179,true,[cT,(cP 13),(cP 14)],[(352,[(cS 15 0 1 2)]),(352,[(cS 16 0 1 2)]),(348,[(cU 4),(cU 0)]),(348,[(cU 5),(cU 0)])],[(0,1),(0,2),(1,0),(2,0)],(.tup [(cP 17),cT]),[(281,[cT,(cP 13),(cP 14)])],[(0,0)]⟩
theorem K348 : chk gN gL call2 F348 = true := by kernel_rfl
def F349 : Fact := ⟨179,true,[cT,(cP 13),(cP 14)],[(352,[(cS 15 0 1 2)]),(352,[(cS 16 0 1 2)]),(348,[(cU 2),(cU 0)]),(348,[(cU 2),(cU 0)])],[(0,1),(0,2),(1,0),(2,0)],(.tup [(cP 17),cT]),[(281,[cT,(cP 18),(cP 19)]),(352,[(cS 20 0 1 1)]),(352,[(cS 21 0 1 1)]),(348,[(cU 1)]),(348,[(cU 1)])],[(0,0),(5,1),(5,2),(6,0),(7,0)]⟩
theorem K349 : chk gN gL call2 F349 = true := by kernel_rfl
def F358 : Fact := ⟨179,true,[cF,(cP 13),(cP 14)],[(352,[(cS 15 0 1 2)]),(352,[(cS 16 0 1 2)]),(348,[(cU 3),(cU 0)]),(348,[(cU 1),(cU 0)])],[(0,1),(0,2),(1,0),(2,0)],(.tup [(cP 17),cT]),[(281,[cF,(cP 13),(cP 14)])],[(0,0)]⟩
theorem K358 : chk gN gL call2 F358 = true := by kernel_rfl
def F360 : Fact := ⟨179,true,[cT,(cP 13),(cP 14)],[(352,[(cS 15 0 1 2)]),(352,[(cS 16 0 1 2)]),(348,[(cU 3),(cU 0)]),(348,[(cU 1),(cU 0)])],[(0,1),(0,2),(1,0),(2,0)],(.tup [(cP 17),cT]),[(281,[cT,(cP 13),(cP 14)])],[(0,0)]⟩
theorem K360 : chk gN gL call2 F360 = true := by kernel_rfl
def F382 : Fact := ⟨179,true,[cF,(cP 13),(cP 14)],[(352,[(cS 15 0 1 2)]),(352,[(cS 16 0 1 2)]),(348,[(cU 7),(cU 0)]),(348,[(cU 1),(cU 0)])],[(0,1),(0,2),(1,0),(2,0)],(.tup [(cP 17),cT]),[(281,[cF,(cP 13),(cP 14)])],[(0,0)]⟩
theorem K382 : chk gN gL call2 F382 = true := by kernel_rfl
def F397 : Fact := ⟨179,true,[cF,(cP 13),(cP 14)],[(352,[(cS 15 0 1 2)]),(352,[(cS 16 0 1 2)]),(348,[(cU 9),(cU 0)]),(348,[(cU 1),(cU 0)])],[(0,1),(0,2),(1,0),(2,0)],(.tup [(cP 17),cT]),[(281,[cF,(cP 13),(cP 14)])],[(0,0)]⟩
theorem K397 : chk gN gL call2 F397 = true := by kernel_rfl
def F409 : Fact := ⟨179,true,[cF,(cP 13),(cP 14)],[(352,[(cS 15 0 1 2)]),(352,[(cS 16 0 1 2)]),(348,[(cU 3),(cU 0)]),(348,[(cU 2),(cU 0)])],[(0,1),(0,2),(1,0),(2,0)],(.tup [(cP 17),cT]),[(281,[cF,(cP 13),(cP 14)])],[(0,0)]⟩
theorem K409 : chk gN gL call2 F409 = true := by kernel_rfl
def F410 : Fact := ⟨179,true,[cF,(cP 13),(cP 14)],[(352,[(cS 15 0 1 1)]),(352,[(cS 16 0 1 2)]),(348,[(cU 1)]),(348,[(cU 2),(cU 0)])],[(0,1),(0,2),(1,0),(2,0)],(.tup [(cP 17),cT]),[(281,[cF,(cP 13),(cP 14)])],[(0,0)]⟩
theorem K410 : chk gN gL call2 F410 = true := by kernel_rfl
def F432 : Fact := ⟨179,true,[cF,(cP 13),(cP 14)],[(352,[(cS 15 0 1 2)]),(352,[(cS 16 0 1 1)]),(348,[(cU 26),(cU 0)]),(348,[(cU 1)])],[(0,1),(0,2),(1,0),(2,0)],(.tup [(cP 17),cT]),[(281,[cF,(cP 13),(cP 14)])],[(0,0)]⟩
theorem K432 : chk gN gL call2 F432 = true := by kernel_rfl
end Ax
