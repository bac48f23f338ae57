/- Facts. -/
import Derived.Test.YtneabigkdcbddaaGreatDoorWL2
set_option maxRecDepth 100000
set_option linter.unusedVariables false
set_option linter.unusedSectionVars false
namespace Ax
def fm2 (n : Nat) : Fact := ⟨18,true,[(cI n)],[],[],(cX (dg n)),[],[]⟩
def fm3 (n : Nat) : Fact := ⟨179,true,[cF,(cP 13),(cP 14)],[(352,[(cS 15 0 1 2)]),(352,[(cS 16 0 1 2)]),(348,[(cU n),(cU 0)]),(348,[(cU 1),(cU 0)])],[(0,1),(0,2),(1,0),(2,0)],(.tup [(cP 17),cT]),[(281,[cF,(cP 13),(cP 14)])],[(0,0)]⟩
theorem KA2b0 : chkL call2 fm2 [5,2,3,4,6,7,8,9,10,11,12,13,14,15,16,17,18,19,20,21,22,23,24,25,26,27,28,29,30,31,32,33,34,35,36,37,38,39,40,41,42,43,44,45,46,47,48,49,50,51,52,53,54,55,56,57,58,59] = true := by kernel_rfl
theorem KA3b0 : chkL call2 fm3 [2,5,10,4,8,12,20,60,40,16,26,30,3,7,9] = true := by kernel_rfl
def F8 : Fact := ⟨179,true,[cF,(cP 13),(cP 14)],[(352,[(cS 15 0 1 2)]),(352,[(cS 16 0 1 2)]),(348,[(cU 1),(cU 0)]),(348,[(cU 1),(cU 0)])],[(0,1),(0,2),(1,0),(2,0)],(.tup [(cP 17),cT]),[(281,[cF,(cP 13),(cP 14)])],[(0,0)]⟩
theorem K8 : chk gN gL call2 F8 = true := by kernel_rfl
def F31 : Fact := ⟨179,true,[cF,(cP 13),(cP 14)],[(352,[(cS 15 0 1 2)]),(352,[(cS 16 0 1 2)]),(348,[(cU 5),(cU 0)]),(348,[(cU 10),(cU 0)])],[(0,1),(0,2),(1,0),(2,0)],(.tup [(cP 17),cT]),[(281,[cF,(cP 18),(cP 19)]),(352,[(cS 20 0 1 1)]),(352,[(cS 21 0 1 1)]),(348,[(cU 1)]),(348,[(cU 2)])],[(0,0),(5,1),(5,2),(6,0),(7,0)]⟩
theorem K31 : chk gN gL call2 F31 = true := by kernel_rfl
def F37 : Fact := ⟨179,true,[cF,(cP 13),(cP 14)],[(352,[(cS 15 0 1 2)]),(352,[(cS 16 0 1 2)]),(348,[(cU 1),(cU 0)]),(348,[(cU 2),(cU 0)])],[(0,1),(0,2),(1,0),(2,0)],(.tup [(cP 17),cT]),[(281,[cF,(cP 13),(cP 14)])],[(0,0)]⟩
theorem K37 : chk gN gL call2 F37 = true := by kernel_rfl
def F41 : Fact := ⟨179,true,[cF,(cP 13),(cP 14)],[(352,[(cS 15 0 1 2)]),(352,[(cS 16 0 1 2)]),(348,[(cU 2),(cU 0)]),(348,[(cU 2),(cU 0)])],[(0,1),(0,2),(1,0),(2,0)],(.tup [(cP 17),cT]),[(281,[cF,(cP 18),(cP 19)]),(352,[(cS 20 0 1 1)]),(352,[(cS 21 0 1 1)]),(348,[(cU 1)]),(348,[(cU 1)])],[(0,0),(5,1),(5,2),(6,0),(7,0)]⟩
theorem K41 : chk gN gL call2 F41 = true := by kernel_rfl
def F44 : Fact := ⟨179,true,[cF,(cP 13),(cP 14)],[(352,[(cS 15 0 0 1)]),(352,[(cS 16 0 1 1)]),(348,[(cU 0)]),(348,[(cU 1)])],[(0,1),(0,2),(1,0),(2,0)],(.tup [(cP 17),cT]),[(281,[cF,(cP 13),(cP 14)])],[(0,0)]⟩
theorem K44 : chk gN gL call2 F44 = true := by kernel_rfl
def F47 : Fact := ⟨179,true,[cF,(cP 13),(cP 14)],[(352,[(cS 15 0 0 1)]),(352,[(cS 16 0 1 2)]),(348,[(cU 0)]),(348,[(cU 1),(cU 0)])],[(0,1),(0,2),(1,0),(2,0)],(.tup [(cP 17),cT]),[(281,[cF,(cP 13),(cP 14)])],[(0,0)]⟩
theorem K47 : chk gN gL call2 F47 = true := by kernel_rfl
def F61 : Fact := ⟨179,true,[cT,(cP 13),(cP 14)],[(352,[(cS 15 0 1 2)]),(352,[(cS 16 0 1 2)]),(348,[(cU 5),(cU 0)]),(348,[(cU 1),(cU 0)])],[(0,1),(0,2),(1,0),(2,0)],(.tup [(cP 17),cT]),[(281,[cT,(cP 13),(cP 14)])],[(0,0)]⟩
theorem K61 : chk gN gL call2 F61 = true := by kernel_rfl
def F63 : Fact := ⟨179,true,[cF,(cP 13),(cP 14)],[(352,[(cS 15 0 0 0)]),(352,[(cS 16 0 1 2)]),(348,[]),(348,[(cU 1),(cU 0)])],[(0,1),(0,2),(1,0),(2,0)],(.tup [(cP 17),cT]),[(281,[cF,(cP 13),(cP 14)])],[(0,0)]⟩
theorem K63 : chk gN gL call2 F63 = true := by kernel_rfl
def F70 : Fact := ⟨179,true,[cT,(cP 13),(cP 14)],[(352,[(cS 15 0 1 2)]),(352,[(cS 16 0 1 2)]),(348,[(cU 10),(cU 0)]),(348,[(cU 1),(cU 0)])],[(0,1),(0,2),(1,0),(2,0)],(.tup [(cP 17),cT]),[(281,[cT,(cP 13),(cP 14)])],[(0,0)]⟩
theorem K70 : chk gN gL call2 F70 = true := by kernel_rfl
def F78 : Fact := ⟨179,true,[cT,(cP 13),(cP 14)],[(352,[(cS 15 0 1 2)]),(352,[(cS 16 0 1 2)]),(348,[(cU 4),(cU 0)]),(348,[(cU 1),(cU 0)])],[(0,1),(0,2),(1,0),(2,0)],(.tup [(cP 17),cT]),[(281,[cT,(cP 13),(cP 14)])],[(0,0)]⟩
theorem K78 : chk gN gL call2 F78 = true := by kernel_rfl
def F118 : Fact := ⟨179,true,[cT,(cP 13),(cP 14)],[(352,[(cS 15 0 1 2)]),(352,[(cS 16 0 1 2)]),(348,[(cU 20),(cU 0)]),(348,[(cU 1),(cU 0)])],[(0,1),(0,2),(1,0),(2,0)],(.tup [(cP 17),cT]),[(281,[cT,(cP 13),(cP 14)])],[(0,0)]⟩
theorem K118 : chk gN gL call2 F118 = true := by kernel_rfl
def F122 : Fact := ⟨179,true,[cF,(cP 13),(cP 14)],[(352,[(cS 15 0 1 2)]),(352,[(cS 16 0 1 2)]),(348,[(cU 20),(cU 0)]),(348,[(cU 5),(cU 0)])],[(0,1),(0,2),(1,0),(2,0)],(.tup [(cP 17),cT]),[(281,[cF,(cP 18),(cP 19)]),(352,[(cS 20 0 1 1)]),(352,[(cS 21 0 1 1)]),(348,[(cU 4)]),(348,[(cU 1)])],[(0,0),(5,1),(5,2),(6,0),(7,0)]⟩
theorem K122 : chk gN gL call2 F122 = true := by kernel_rfl
def F124 : Fact := ⟨179,true,[cF,(cP 13),(cP 14)],[(352,[(cS 15 0 1 1)]),(352,[(cS 16 0 1 1)]),(348,[(cU 4)]),(348,[(cU 1)])],[(0,1),(0,2),(1,0),(2,0)],(.tup [(cP 17),cT]),[(281,[cF,(cP 13),(cP 14)])],[(0,0)]⟩
theorem K124 : chk gN gL call2 F124 = true := by kernel_rfl
def F129 : Fact := ⟨179,true,[cF,(cP 13),(cP 14)],[(352,[(cS 15 0 1 2)]),(352,[(cS 16 0 1 2)]),(348,[(cU 1),(cU 0)]),(348,[(cU 5),(cU 0)])],[(0,1),(0,2),(1,0),(2,0)],(.tup [(cP 17),cT]),[(281,[cF,(cP 13),(cP 14)])],[(0,0)]⟩
theorem K129 : chk gN gL call2 F129 = true := by kernel_rfl
def F131 : Fact := ⟨179,true,[cT,(cP 13),(cP 14)],[(352,[(cS 15 0 1 2)]),(352,[(cS 16 0 1 2)]),(348,[(cU 1),(cU 0)]),(348,[(cU 5),(cU 0)])],[(0,1),(0,2),(1,0),(2,0)],(.tup [(cP 17),cT]),[(281,[cT,(cP 13),(cP 14)])],[(0,0)]⟩
theorem K131 : chk gN gL call2 F131 = true := by kernel_rfl
def F136 : Fact := ⟨179,true,[cF,(cP 13),(cP 14)],[(352,[(cS 15 0 1 2)]),(352,[(cS 16 0 1 2)]),(348,[(cU 5),(cU 0)]),(348,[(cU 5),(cU 0)])],[(0,1),(0,2),(1,0),(2,0)],(.tup [(cP 17),cT]),[(281,[cF,(cP 18),(cP 19)]),(352,[(cS 20 0 1 1)]),(352,[(cS 21 0 1 1)]),(348,[(cU 1)]),(348,[(cU 1)])],[(0,0),(5,1),(5,2),(6,0),(7,0)]⟩
theorem K136 : chk gN gL call2 F136 = true := by kernel_rfl
def F138 : Fact := ⟨179,true,[cT,(cP 13),(cP 14)],[(352,[(cS 15 0 1 2)]),(352,[(cS 16 0 1 2)]),(348,[(cU 5),(cU 0)]),(348,[(cU 5),(cU 0)])],[(0,1),(0,2),(1,0),(2,0)],(.tup [(cP 17),cT]),[(281,[cT,(cP 18),(cP 19)]),(352,[(cS 20 0 1 1)]),(352,[(cS 21 0 1 1)]),(348,[(cU 1)]),(348,[(cU 1)])],[(0,0),(5,1),(5,2),(6,0),(7,0)]⟩
theorem K138 : chk gN gL call2 F138 = true := by kernel_rfl
def F140 : Fact := ⟨179,true,[cT,(cP 13),(cP 14)],[(352,[(cS 15 0 1 1)]),(352,[(cS 16 0 1 1)]),(348,[(cU 1)]),(348,[(cU 1)])],[(0,1),(0,2),(1,0),(2,0)],(.tup [(cP 17),cT]),[(281,[cT,(cP 13),(cP 14)])],[(0,0)]⟩
theorem K140 : chk gN gL call2 F140 = true := by kernel_rfl
def F143 : Fact := ⟨179,true,[cT,(cP 13),(cP 14)],[(352,[(cS 15 0 1 1)]),(352,[(cS 16 0 1 2)]),(348,[(cU 6)]),(348,[(cU 1),(cU 0)])],[(0,1),(0,2),(1,0),(2,0)],(.tup [(cP 17),cT]),[(281,[cT,(cP 13),(cP 14)])],[(0,0)]⟩
theorem K143 : chk gN gL call2 F143 = true := by kernel_rfl
def F148 : Fact := ⟨179,true,[cT,(cP 13),(cP 14)],[(352,[(cS 15 0 1 1)]),(352,[(cS 16 0 1 2)]),(348,[(cU 40)]),(348,[(cU 1),(cU 0)])],[(0,1),(0,2),(1,0),(2,0)],(.tup [(cP 17),cT]),[(281,[cT,(cP 13),(cP 14)])],[(0,0)]⟩
theorem K148 : chk gN gL call2 F148 = true := by kernel_rfl
def F151 : Fact := ⟨179,true,[cT,(cP 13),(cP 14)],[(352,[(cS 15 0 1 2)]),(352,[(cS 16 0 1 2)]),(348,[(cU 40),(cU 0)]),(348,[(cU 1),(cU 0)])],[(0,1),(0,2),(1,0),(2,0)],(.tup [(cP 17),cT]),[(281,[cT,(cP 13),(cP 14)])],[(0,0)]⟩
theorem K151 : chk gN gL call2 F151 = true := by kernel_rfl
def F154 : Fact := ⟨179,true,[cF,(cP 13),(cP 14)],[(352,[(cS 15 0 1 2)]),(352,[(cS 16 0 1 2)]),(348,[(cU 40),(cU 0)]),(348,[(cU 5),(cU 0)])],[(0,1),(0,2),(1,0),(2,0)],(.tup [(cP 17),cT]),[(281,[cF,(cP 18),(cP 19)]),(352,[(cS 20 0 1 1)]),(352,[(cS 21 0 1 1)]),(348,[(cU 8)]),(348,[(cU 1)])],[(0,0),(5,1),(5,2),(6,0),(7,0)]⟩
theorem K154 : chk gN gL call2 F154 = true := by kernel_rfl
def F157 : Fact := ⟨179,true,[cF,(cP 13),(cP 14)],[(352,[(cS 15 0 1 2)]),(352,[(cS 16 0 1 1)]),(348,[(cU 12),(cU 0)]),(348,[(cU 1)])],[(0,1),(0,2),(1,0),(2,0)],(.tup [(cP 17),cT]),[(281,[cF,(cP 13),(cP 14)])],[(0,0)]⟩
theorem K157 : chk gN gL call2 F157 = true := by kernel_rfl
def F163 : Fact := ⟨179,true,[cT,(cP 13),(cP 14)],[(352,[(cS 15 0 1 2)]),(352,[(cS 16 0 1 2)]),(348,[(cU 1),(cU 0)]),(348,[(cU 1),(cU 0)])],[(0,1),(0,2),(1,0),(2,0)],(.tup [(cP 17),cT]),[(281,[cT,(cP 13),(cP 14)])],[(0,0)]⟩
theorem K163 : chk gN gL call2 F163 = true := by kernel_rfl
def F167 : Fact := ⟨179,true,[cF,(cP 13),(cP 14)],[(352,[(cS 15 0 0 1)]),(352,[(cS 16 0 1 2)]),(348,[(cU 0)]),(348,[(cU 5),(cU 0)])],[(0,1),(0,2),(1,0),(2,0)],(.tup [(cP 17),cT]),[(281,[cF,(cP 18),(cP 19)]),(352,[cZ]),(352,[(cS 20 0 1 1)]),(348,[(cU 1)])],[(0,0),(5,1),(5,2),(7,0)]⟩
theorem K167 : chk gN gL call2 F167 = true := by kernel_rfl
def F170 : Fact := ⟨179,true,[cF,(cP 13),(cP 14)],[(352,[(cS 15 0 1 1)]),(352,[(cS 16 0 1 2)]),(348,[(cU 2)]),(348,[(cU 1),(cU 0)])],[(0,1),(0,2),(1,0),(2,0)],(.tup [(cP 17),cT]),[(281,[cF,(cP 13),(cP 14)])],[(0,0)]⟩
theorem K170 : chk gN gL call2 F170 = true := by kernel_rfl
def F175 : Fact := ⟨179,true,[cT,(cP 13),(cP 14)],[(352,[(cS 15 0 1 1)]),(352,[(cS 16 0 1 2)]),(348,[(cU 4)]),(348,[(cU 1),(cU 0)])],[(0,1),(0,2),(1,0),(2,0)],(.tup [(cP 17),cT]),[(281,[cT,(cP 13),(cP 14)])],[(0,0)]⟩
theorem K175 : chk gN gL call2 F175 = true := by kernel_rfl
def F178 : Fact := ⟨179,true,[cT,(cP 13),(cP 14)],[(352,[(cS 15 0 1 2)]),(352,[(cS 16 0 1 2)]),(348,[(cU 20),(cU 0)]),(348,[(cU 5),(cU 0)])],[(0,1),(0,2),(1,0),(2,0)],(.tup [(cP 17),cT]),[(281,[cT,(cP 18),(cP 19)]),(352,[(cS 20 0 1 1)]),(352,[(cS 21 0 1 1)]),(348,[(cU 4)]),(348,[(cU 1)])],[(0,0),(5,1),(5,2),(6,0),(7,0)]⟩
theorem K178 : chk gN gL call2 F178 = true := by kernel_rfl
def F181 : Fact := ⟨179,true,[cF,(cP 13),(cP 14)],[(352,[(cS 15 0 1 1)]),(352,[(cS 16 0 1 1)]),(348,[(cU 8)]),(348,[(cU 1)])],[(0,1),(0,2),(1,0),(2,0)],(.tup [(cP 17),cT]),[(281,[cF,(cP 13),(cP 14)])],[(0,0)]⟩
theorem K181 : chk gN gL call2 F181 = true := by kernel_rfl
def F184 : Fact := ⟨179,true,[cT,(cP 13),(cP 14)],[(352,[(cS 15 0 1 1)]),(352,[(cS 16 0 1 2)]),(348,[(cU 20)]),(348,[(cU 1),(cU 0)])],[(0,1),(0,2),(1,0),(2,0)],(.tup [(cP 17),cT]),[(281,[cT,(cP 13),(cP 14)])],[(0,0)]⟩
theorem K184 : chk gN gL call2 F184 = true := by kernel_rfl
def F191 : Fact := ⟨179,true,[cT,(cP 13),(cP 14)],[(352,[(cS 15 0 0 1)]),(352,[(cS 16 0 1 2)]),(348,[(cU 0)]),(348,[(cU 1),(cU 0)])],[(0,1),(0,2),(1,0),(2,0)],(.tup [(cP 17),cT]),[(281,[cF,(cP 13),(cP 14)])],[(0,0)]⟩
theorem K191 : chk gN gL call2 F191 = true := by kernel_rfl
def F194 : Fact := ⟨179,true,[cT,(cP 13),(cP 14)],[(352,[(cS 15 0 1 1)]),(352,[(cS 16 0 1 2)]),(348,[(cU 2)]),(348,[(cU 1),(cU 0)])],[(0,1),(0,2),(1,0),(2,0)],(.tup [(cP 17),cT]),[(281,[cT,(cP 13),(cP 14)])],[(0,0)]⟩
theorem K194 : chk gN gL call2 F194 = true := by kernel_rfl
def F197 : Fact := ⟨179,true,[cT,(cP 13),(cP 14)],[(352,[(cS 15 0 1 2)]),(352,[(cS 16 0 1 2)]),(348,[(cU 5),(cU 0)]),(348,[(cU 2),(cU 0)])],[(0,1),(0,2),(1,0),(2,0)],(.tup [(cP 17),cT]),[(281,[cT,(cP 13),(cP 14)])],[(0,0)]⟩
theorem K197 : chk gN gL call2 F197 = true := by kernel_rfl
def F209 : Fact := ⟨179,true,[cF,(cP 13),(cP 14)],[(352,[(cS 15 0 1 1)]),(352,[(cS 16 0 1 2)]),(348,[(cU 6)]),(348,[(cU 1),(cU 0)])],[(0,1),(0,2),(1,0),(2,0)],(.tup [(cP 17),cT]),[(281,[cF,(cP 13),(cP 14)])],[(0,0)]⟩
theorem K209 : chk gN gL call2 F209 = true := by kernel_rfl
def F210 : Fact := ⟨179,true,[cF,(cP 13),(cP 14)],[(352,[(cS 15 0 1 2)]),(352,[(cS 16 0 1 2)]),(348,[(cU 20),(cU 0)]),(348,[(cU 2),(cU 0)])],[(0,1),(0,2),(1,0),(2,0)],(.tup [(cP 17),cT]),[(281,[cF,(cP 18),(cP 19)]),(352,[(cS 20 0 1 1)]),(352,[(cS 21 0 1 1)]),(348,[(cU 10)]),(348,[(cU 1)])],[(0,0),(5,1),(5,2),(6,0),(7,0)]⟩
theorem K210 : chk gN gL call2 F210 = true := by kernel_rfl
def F225 : Fact := ⟨179,true,[cF,(cP 13),(cP 14)],[(352,[(cS 15 0 1 1)]),(352,[(cS 16 0 1 2)]),(348,[(cU 4)]),(348,[(cU 1),(cU 0)])],[(0,1),(0,2),(1,0),(2,0)],(.tup [(cP 17),cT]),[(281,[cF,(cP 13),(cP 14)])],[(0,0)]⟩
theorem K225 : chk gN gL call2 F225 = true := by kernel_rfl
def F228 : Fact := ⟨179,true,[cF,(cP 13),(cP 14)],[(352,[(cS 15 0 0 1)]),(352,[(cS 16 0 1 2)]),(348,[(cU 0)]),(348,[(cU 2),(cU 0)])],[(0,1),(0,2),(1,0),(2,0)],(.tup [(cP 17),cT]),[(281,[cF,(cP 18),(cP 19)]),(352,[cZ]),(352,[(cS 20 0 1 1)]),(348,[(cU 1)])],[(0,0),(5,1),(5,2),(7,0)]⟩
theorem K228 : chk gN gL call2 F228 = true := by kernel_rfl
def F240 : Fact := ⟨179,true,[cF,(cP 13),(cP 14)],[(352,[(cS 15 0 1 2)]),(352,[(cS 16 0 1 1)]),(348,[(cU 8),(cU 0)]),(348,[(cU 1)])],[(0,1),(0,2),(1,0),(2,0)],(.tup [(cP 17),cT]),[(281,[cF,(cP 13),(cP 14)])],[(0,0)]⟩
theorem K240 : chk gN gL call2 F240 = true := by kernel_rfl
def F242 : Fact := ⟨179,true,[cF,(cP 13),(cP 14)],[(352,[(cS 15 0 1 1)]),(352,[(cS 16 0 1 2)]),(348,[(cU 20)]),(348,[(cU 1),(cU 0)])],[(0,1),(0,2),(1,0),(2,0)],(.tup [(cP 17),cT]),[(281,[cF,(cP 13),(cP 14)])],[(0,0)]⟩
theorem K242 : chk gN gL call2 F242 = true := by kernel_rfl
def F250 : Fact := ⟨179,true,[cT,(cP 13),(cP 14)],[(352,[(cS 15 0 1 2)]),(352,[(cS 16 0 1 2)]),(348,[(cU 1),(cU 0)]),(348,[(cU 2),(cU 0)])],[(0,1),(0,2),(1,0),(2,0)],(.tup [(cP 17),cT]),[(281,[cT,(cP 13),(cP 14)])],[(0,0)]⟩
theorem K250 : chk gN gL call2 F250 = true := by kernel_rfl
def F253 : Fact := ⟨179,true,[cF,(cP 13),(cP 14)],[(352,[(cS 15 0 1 2)]),(352,[(cS 16 0 1 2)]),(348,[(cU 2),(cU 0)]),(348,[(cU 5),(cU 0)])],[(0,1),(0,2),(1,0),(2,0)],(.tup [(cP 17),cT]),[(281,[cF,(cP 13),(cP 14)])],[(0,0)]⟩
theorem K253 : chk gN gL call2 F253 = true := by kernel_rfl
def F272 : Fact := ⟨179,true,[cT,(cP 13),(cP 14)],[(352,[(cS 15 0 1 2)]),(352,[(cS 16 0 1 2)]),(348,[(cU 2),(cU 0)]),(348,[(cU 1),(cU 0)])],[(0,1),(0,2),(1,0),(2,0)],(.tup [(cP 17),cT]),[(281,[cT,(cP 13),(cP 14)])],[(0,0)]⟩
theorem K272 : chk gN gL call2 F272 = true := by kernel_rfl
def F278 : Fact := ⟨179,true,[cF,(cP 13),(cP 14)],[(352,[(cS 15 0 1 2)]),(352,[(cS 16 0 1 2)]),(348,[(cU 5),(cU 0)]),(348,[(cU 2),(cU 0)])],[(0,1),(0,2),(1,0),(2,0)],(.tup [(cP 17),cT]),[(281,[cF,(cP 13),(cP 14)])],[(0,0)]⟩
theorem K278 : chk gN gL call2 F278 = true := by kernel_rfl
def F287 : Fact := ⟨179,true,[cF,(cP 13),(cP 14)],[(352,[(cS 15 0 1 1)]),(352,[(cS 16 0 1 1)]),(348,[(cU 10)]),(348,[(cU 1)])],[(0,1),(0,2),(1,0),(2,0)],(.tup [(cP 17),cT]),[(281,[cF,(cP 13),(cP 14)])],[(0,0)]⟩
theorem K287 : chk gN gL call2 F287 = true := by kernel_rfl
def F292 : Fact := ⟨179,true,[cF,(cP 13),(cP 14)],[(352,[cZ]),(352,[(cS 15 0 1 1)]),(348,[(cU 1)])],[(0,1),(0,2),(2,0)],(.tup [(cP 16),cT]),[(281,[cF,(cP 13),(cP 14)])],[(0,0)]⟩
theorem K292 : chk gN gL call2 F292 = true := by kernel_rfl
def F303 : Fact := ⟨179,true,[cT,(cP 13),(cP 14)],[(352,[(cS 15 0 1 2)]),(352,[(cS 16 0 1 2)]),(348,[(cU 1),(cU 0)]),(348,[(cU 10),(cU 0)])],[(0,1),(0,2),(1,0),(2,0)],(.tup [(cP 17),cT]),[(281,[cT,(cP 13),(cP 14)])],[(0,0)]⟩
theorem K303 : chk gN gL call2 F303 = true := by kernel_rfl
def F307 : Fact := ⟨179,true,[cT,(cP 13),(cP 14)],[(352,[(cS 15 0 1 2)]),(352,[(cS 16 0 1 2)]),(348,[(cU 2),(cU 0)]),(348,[(cU 10),(cU 0)])],[(0,1),(0,2),(1,0),(2,0)],(.tup [(cP 17),cT]),[(281,[cT,(cP 18),(cP 19)]),(352,[(cS 20 0 1 1)]),(352,[(cS 21 0 1 1)]),(348,[(cU 1)]),(348,[(cU 5)])],[(0,0),(5,1),(5,2),(6,0),(7,0)]⟩
theorem K307 : chk gN gL call2 F307 = true := by kernel_rfl
def F311 : Fact := ⟨179,true,[cT,(cP 13),(cP 14)],[(352,[(cS 15 0 0 1)]),(352,[(cS 16 0 1 2)]),(348,[(cU 0)]),(348,[(cU 10),(cU 0)])],[(0,1),(0,2),(1,0),(2,0)],(.tup [(cP 17),cT]),[(281,[cF,(cP 18),(cP 19)]),(352,[cZ]),(352,[(cS 20 0 1 1)]),(348,[(cU 1)])],[(0,0),(5,1),(5,2),(7,0)]⟩
theorem K311 : chk gN gL call2 F311 = true := by kernel_rfl
def F313 : Fact := ⟨179,true,[cF,(cP 13),(cP 14)],[(352,[(cS 15 0 1 2)]),(352,[(cS 16 0 1 2)]),(348,[(cU 10),(cU 0)]),(348,[(cU 10),(cU 0)])],[(0,1),(0,2),(1,0),(2,0)],(.tup [(cP 17),cT]),[(281,[cF,(cP 18),(cP 19)]),(352,[(cS 20 0 1 1)]),(352,[(cS 21 0 1 1)]),(348,[(cU 1)]),(348,[(cU 1)])],[(0,0),(5,1),(5,2),(6,0),(7,0)]⟩
theorem K313 : chk gN gL call2 F313 = true := by kernel_rfl
def F317 : Fact := ⟨179,true,[cF,(cP 13),(cP 14)],[(352,[(cS 15 0 1 1)]),(352,[(cS 16 0 1 1)]),(348,[(cU 1)]),(348,[(cU 1)])],[(0,1),(0,2),(1,0),(2,0)],(.tup [(cP 17),cT]),[(281,[cF,(cP 13),(cP 14)])],[(0,0)]⟩
theorem K317 : chk gN gL call2 F317 = true := by kernel_rfl
def F319 : Fact := ⟨179,true,[cT,(cP 13),(cP 14)],[(352,[(cS 15 0 1 2)]),(352,[(cS 16 0 1 2)]),(348,[(cU 10),(cU 0)]),(348,[(cU 2),(cU 0)])],[(0,1),(0,2),(1,0),(2,0)],(.tup [(cP 17),cT]),[(281,[cT,(cP 18),(cP 19)]),(352,[(cS 20 0 1 1)]),(352,[(cS 21 0 1 1)]),(348,[(cU 5)]),(348,[(cU 1)])],[(0,0),(5,1),(5,2),(6,0),(7,0)]⟩
theorem K319 : chk gN gL call2 F319 = true := by kernel_rfl
def F326 : Fact := ⟨179,true,[cF,(cP 13),(cP 14)],[(352,[(cS 15 0 1 1)]),(352,[(cS 16 0 1 1)]),(348,[(cU 30)]),(348,[(cU 1)])],[(0,1),(0,2),(1,0),(2,0)],(.tup [(cP 17),cT]),[(281,[cF,(cP 13),(cP 14)])],[(0,0)]⟩
theorem K326 : chk gN gL call2 F326 = true := by kernel_rfl
def F334 : Fact := ⟨179,true,[cF,(cP 13),(cP 14)],[(352,[(cS 15 0 1 2)]),(352,[(cS 16 0 1 1)]),(348,[(cU 30),(cU 0)]),(348,[(cU 1)])],[(0,1),(0,2),(1,0),(2,0)],(.tup [(cP 17),cT]),[(281,[cF,(cP 13),(cP 14)])],[(0,0)]⟩
theorem K334 : chk gN gL call2 F334 = true := by kernel_rfl
def F338 : Fact := ⟨179,true,[cF,(cP 13),(cP 14)],[(352,[(cS 15 0 1 2)]),(352,[(cS 16 0 1 2)]),(348,[(cU 4),(cU 0)]),(348,[(cU 5),(cU 0)])],[(0,1),(0,2),(1,0),(2,0)],(.tup [(cP 17),cT]),[(281,[cF,(cP 13),(cP 14)])],[(0,0)]⟩
theorem K338 : chk gN gL call2 F338 = true := by kernel_rfl
def F339 : Fact := ⟨179,true,[cT,(cP 13),(cP 14)],[(352,[(cS 15 0 1 2)]),(352,[(cS 16 0 1 2)]),(348,[(cU 4),(cU 0)]),(348,[(cU 5),(cU 0)])],[(0,1),(0,2),(1,0),(2,0)],(.tup [(cP 17),cT]),[(281,[cT,(cP 13),(cP 14)])],[(0,0)]⟩
theorem K339 : chk gN gL call2 F339 = true := by kernel_rfl
def F340 : Fact := ⟨179,true,[cT,(cP 13),(cP 14)],[(352,[(cS 15 0 1 2)]),(352,[(cS 16 0 1 2)]),(348,[(cU 2),(cU 0)]),(348,[(cU 2),(cU 0)])],[(0,1),(0,2),(1,0),(2,0)],(.tup [(cP 17),cT]),[(281,[cT,(cP 18),(cP 19)]),(352,[(cS 20 0 1 1)]),(352,[(cS 21 0 1 1)]),(348,[(cU 1)]),(348,[(cU 1)])],[(0,0),(5,1),(5,2),(6,0),(7,0)]⟩
theorem K340 : chk gN gL call2 F340 = true := by kernel_rfl
def F351 : Fact := ⟨179,true,[cT,(cP 13),(cP 14)],[(352,[(cS 15 0 1 2)]),(352,[(cS 16 0 1 2)]),(348,[(cU 3),(cU 0)]),(348,[(cU 1),(cU 0)])],[(0,1),(0,2),(1,0),(2,0)],(.tup [(cP 17),cT]),[(281,[cT,(cP 13),(cP 14)])],[(0,0)]⟩
theorem K351 : chk gN gL call2 F351 = true := by kernel_rfl
def F400 : Fact := ⟨179,true,[cF,(cP 13),(cP 14)],[(352,[(cS 15 0 1 2)]),(352,[(cS 16 0 1 2)]),(348,[(cU 3),(cU 0)]),(348,[(cU 2),(cU 0)])],[(0,1),(0,2),(1,0),(2,0)],(.tup [(cP 17),cT]),[(281,[cF,(cP 13),(cP 14)])],[(0,0)]⟩
theorem K400 : chk gN gL call2 F400 = true := by kernel_rfl
def F402 : Fact := ⟨179,true,[cF,(cP 13),(cP 14)],[(352,[(cS 15 0 1 1)]),(352,[(cS 16 0 1 2)]),(348,[(cU 1)]),(348,[(cU 2),(cU 0)])],[(0,1),(0,2),(1,0),(2,0)],(.tup [(cP 17),cT]),[(281,[cF,(cP 13),(cP 14)])],[(0,0)]⟩
theorem K402 : chk gN gL call2 F402 = true := by kernel_rfl
def F424 : Fact := ⟨179,true,[cF,(cP 13),(cP 14)],[(352,[(cS 15 0 1 2)]),(352,[(cS 16 0 1 1)]),(348,[(cU 26),(cU 0)]),(348,[(cU 1)])],[(0,1),(0,2),(1,0),(2,0)],(.tup [(cP 17),cT]),[(281,[cF,(cP 13),(cP 14)])],[(0,0)]⟩
theorem K424 : chk gN gL call2 F424 = true := by kernel_rfl
def F449 : Fact := ⟨18,true,[(cI 1)],[],[],(cX [49]),[],[]⟩
theorem K449 : chk gN gL call2 F449 = true := by kernel_rfl
def F461 : Fact := ⟨18,true,[(cI 0)],[],[],(cX [48]),[],[]⟩
theorem K461 : chk gN gL call2 F461 = true := by kernel_rfl
end Ax
