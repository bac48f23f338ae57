/- Facts. -/
import Derived.Test.YtneabigkdcbddaaGreatDoorNL4
set_option maxRecDepth 100000
set_option linter.unusedVariables false
set_option linter.unusedSectionVars false
namespace Ax
def F338 : Fact := ⟨41,true,[(cA [(cJ 0),cF,(cG 13 0 1 1 1),(cX [51,48]),cZ,(cG 14 0 2 2 1)])],[(9,[(cX [53,47,50])]),(24,[(cS 15 0 1 1),(cS 16 0 1 1)]),(9,[(cX [48])]),(9,[(cX [53])])],[(0,2),(0,5),(2,0),(2,1)],(cA [(cJ 0),cF,cF,(cX [34,53,47,50,34,32,34,51,48,34,32])]),[],[]⟩
theorem K338 : chk gN gL call4 F338 = true := by kernel_rfl
def F355 : Fact := ⟨23,true,[(cA [(cG 13 0 3 3 5),(cG 14 0 3 3 5)])],[(81,[(cX [120]),(cX [48]),(cX [56]),(cX [50]),cF,(cX [116,104,101,116,97]),(cX []),(cX []),(cX [49,47,50]),cF,(cX [116,104,101,116,97]),(cX []),(cX []),(cX [49,47,50]),cF]),(99,[(cX [99,97,112]),(cI 1),(cG 15 0 1 1 2),(cX [49,48]),(cX []),(cX [99,117,116]),(cI 3),(cG 16 0 3 3 2),(cX [52,48]),(cX []),(cX [99,117,116]),(cI 3),(cG 17 0 3 3 2),(cX [51,48]),(cX [])]),(103,[(cI 0),(cX [49])]),(103,[(cI 0),(cX [53]),(cI 1),(cX [49,47,50]),(cI 2),(cX [49,47,50])]),(103,[(cI 0),(cX [53,47,50]),(cI 1),(cX [49,47,50]),(cI 2),(cX [49,47,50])])],[(0,0),(0,1),(2,2),(2,7),(2,12)],(.tup [(cA [(cI 1),(cX [50,54]),(cS 18 0 3 3),(cS 19 0 3 3),cZ]),cT]),[(9,[(cX [56]),(cX [50,48]),(cX [48])]),(9,[(cX [48]),(cX [48]),(cX [49])])],[(0,2),(0,3)]⟩
theorem K355 : chk gN gL call4 F355 = true := by kernel_rfl
def F386 : Fact := ⟨23,true,[(cA [(cS 13 0 2 2),(cS 14 0 1 1)])],[(81,[(cX [120]),(cX [48]),(cX [50]),(cX [50]),cT,(cX [121]),(cX [48]),(cX []),(cX [51]),cF]),(99,[(cX [114]),(cI 3),(cS 15 0 2 2),(cX [51]),(cX [])]),(103,[(cI 0),(cX [49]),(cI 1),(cX [49])])],[(0,0),(0,1),(2,2)],(.tup [(cA [(cI 1),(cX [55]),(cS 16 0 2 2),(cS 17 0 1 1),cZ]),cT]),[(9,[(cX [50]),(cX [49])]),(9,[(cX [51])])],[(0,2),(0,3)]⟩
theorem K386 : chk gN gL call4 F386 = true := by kernel_rfl
def F389 : Fact := ⟨23,true,[(cA [(cG 13 0 2 2 5),(cG 14 0 1 1 5)])],[(81,[(cX [120]),(cX [48]),(cX [49]),(cX [50]),cT,(cX [121]),(cX [48]),(cX []),(cX [51]),cF]),(99,[(cX [114]),(cI 3),(cG 15 0 2 2 2),(cX [51]),(cX [])]),(103,[(cI 0),(cX [49]),(cI 1),(cX [49])])],[(0,0),(0,1),(2,2)],(.tup [(cA [(cI 1),(cX [56]),(cS 16 0 2 2),(cS 17 0 1 1),cZ]),cT]),[(9,[(cX [49]),(cX [50])]),(9,[(cX [51])])],[(0,2),(0,3)]⟩
theorem K389 : chk gN gL call4 F389 = true := by kernel_rfl
def F390 : Fact := ⟨71,true,[(cA [(cS 13 0 2 2),(cS 14 0 1 1)])],[(81,[(cX [120]),(cX [48]),(cX [50]),(cX [50]),cT,(cX [121]),(cX [48]),(cX []),(cX [51]),cF]),(99,[(cX [114]),(cI 3),(cS 15 0 2 2),(cX [51]),(cX [])]),(103,[(cI 0),(cX [49]),(cI 1),(cX [49])])],[(0,0),(0,1),(2,2)],cT,[],[]⟩
theorem K390 : chk gN gL call4 F390 = true := by kernel_rfl
def F391 : Fact := ⟨23,true,[(cA [(cG 13 0 2 2 5),(cS 14 0 1 1)])],[(81,[(cX [120]),(cX [48]),(cX [50]),(cX [50]),cT,(cX [121]),(cX [48]),(cX []),(cX [51]),cF]),(99,[(cX [114]),(cI 3),(cS 15 0 2 2),(cX [51]),(cX [])]),(103,[(cI 0),(cX [49]),(cI 1),(cX [49])])],[(0,0),(0,1),(2,2)],(.tup [(cA [(cI 1),(cX [55]),(cS 16 0 2 2),(cS 17 0 1 1),cZ]),cT]),[(9,[(cX [50]),(cX [49])]),(9,[(cX [51])])],[(0,2),(0,3)]⟩
theorem K391 : chk gN gL call4 F391 = true := by kernel_rfl
end Ax
