/- Functions, as the abstract run takes them. -/
import Derived.Test.YtkpbmaoaedaafaaP
set_option maxRecDepth 100000
namespace Ax
def i3 : IFn := .go (.seq (.rg [.r p0 (.move (.c (.bool false)))])
 (.seq (.rg [.r p4 (.buildSlice 3 [(.int .i64 (.ofNat 0)),(.int .i64 (.ofNat 0)),(.int .i64 (.ofNat 0)),(.int .i64 (.ofNat 0)),(.int .i64 (.ofNat 0)),(.int .i64 (.ofNat 0)),(.int .i64 (.ofNat 0)),(.int .i64 (.ofNat 0)),(.int .i64 (.ofNat 0)),(.int .i64 (.ofNat 0)),(.int .i64 (.ofNat 0)),(.int .i64 (.ofNat 0)),(.int .i64 (.ofNat 0)),(.int .i64 (.ofNat 0)),(.int .i64 (.ofNat 0)),(.int .i64 (.ofNat 0)),(.int .i64 (.ofNat 0)),(.int .i64 (.ofNat 0)),(.int .i64 (.ofNat 0)),(.int .i64 (.ofNat 0)),(.int .i64 (.ofNat 0)),(.int .i64 (.ofNat 0)),(.int .i64 (.ofNat 0)),(.int .i64 (.ofNat 0)),(.int .i64 (.ofNat 0)),(.int .i64 (.ofNat 0)),(.int .i64 (.ofNat 0)),(.int .i64 (.ofNat 0)),(.int .i64 (.ofNat 0)),(.int .i64 (.ofNat 0)),(.int .i64 (.ofNat 0)),(.int .i64 (.ofNat 0)),(.int .i64 (.ofNat 0))] 33 [(0,1,(.c (.int .i64 (.ofNat 0)))),(1,1,(.c (.int .i64 (.ofNat 1)))),(2,1,(.c (.int .i64 (.ofNat 2)))),(3,1,(.c (.int .i64 (.ofNat 3)))),(4,1,(.c (.int .i64 (.ofNat 4)))),(5,1,(.c (.int .i64 (.ofNat 5)))),(6,1,(.c (.int .i64 (.ofNat 6)))),(7,1,(.c (.int .i64 (.ofNat 7)))),(8,1,(.c (.int .i64 (.ofNat 8)))),(9,1,(.c (.int .i64 (.ofNat 9)))),(10,1,(.c (.int .i64 (.ofNat 10)))),(11,1,(.c (.int .i64 (.ofNat 2000)))),(12,1,(.c (.int .i64 (.ofNat 20)))),(13,1,(.c (.int .i64 (.ofNat 20)))),(14,1,(.c (.int .i64 (.ofNat 2500)))),(15,1,(.c (.int .i64 (.ofNat 20)))),(16,1,(.c (.int .i64 (.ofNat 64)))),(17,1,(.c (.int .i64 (.ofNat 60)))),(18,1,(.c (.int .i64 (.ofNat 100)))),(19,1,(.c (.int .i64 (.ofNat 440)))),(20,1,(.c (.int .i64 (.ofNat 400)))),(21,1,(.c (.int .i64 (.ofNat 2000)))),(22,1,(.c (.int .i64 (.ofNat 300)))),(23,1,(.c (.int .i64 (.ofNat 1)))),(24,1,(.c (.int .i64 (.ofNat 2)))),(25,1,(.c (.int .i64 (.ofNat 3)))),(26,1,(.c (.int .i64 (.ofNat 1)))),(27,1,(.c (.int .i64 (.ofNat 2)))),(28,1,(.c (.int .i64 (.ofNat 3)))),(29,1,(.c (.int .i64 (.ofNat 4)))),(30,1,(.c (.int .i64 (.ofNat 1)))),(31,1,(.c (.int .i64 (.ofNat 2)))),(32,1,(.c (.int .i64 (.ofNat 3))))]),
 .r p1 (.move (.t p4))])
 (.seq (.rg [.r p5 (.buildSlice 3 [(.int .i64 (.ofNat 0)),(.int .i64 (.ofNat 0)),(.int .i64 (.ofNat 0)),(.int .i64 (.ofNat 0)),(.int .i64 (.ofNat 0)),(.int .i64 (.ofNat 0)),(.int .i64 (.ofNat 0)),(.int .i64 (.ofNat 0)),(.int .i64 (.ofNat 0)),(.int .i64 (.ofNat 0)),(.int .i64 (.ofNat 0)),(.int .i64 (.ofNat 0)),(.int .i64 (.ofNat 0)),(.int .i64 (.ofNat 0)),(.int .i64 (.ofNat 0)),(.int .i64 (.ofNat 0)),(.int .i64 (.ofNat 0)),(.int .i64 (.ofNat 0)),(.int .i64 (.ofNat 0)),(.int .i64 (.ofNat 0)),(.int .i64 (.ofNat 0)),(.int .i64 (.ofNat 0)),(.int .i64 (.ofNat 0)),(.int .i64 (.ofNat 0)),(.int .i64 (.ofNat 0)),(.int .i64 (.ofNat 0)),(.int .i64 (.ofNat 0)),(.int .i64 (.ofNat 0)),(.int .i64 (.ofNat 0)),(.int .i64 (.ofNat 0)),(.int .i64 (.ofNat 0)),(.int .i64 (.ofNat 0)),(.int .i64 (.ofNat 0))] 33 [(0,1,(.c (.int .i64 (.ofNat 0)))),(1,1,(.c (.int .i64 (.ofNat 1)))),(2,1,(.c (.int .i64 (.ofNat 2)))),(3,1,(.c (.int .i64 (.ofNat 3)))),(4,1,(.c (.int .i64 (.ofNat 4)))),(5,1,(.c (.int .i64 (.ofNat 5)))),(6,1,(.c (.int .i64 (.ofNat 6)))),(7,1,(.c (.int .i64 (.ofNat 7)))),(8,1,(.c (.int .i64 (.ofNat 8)))),(9,1,(.c (.int .i64 (.ofNat 9)))),(10,1,(.c (.int .i64 (.ofNat 10)))),(11,1,(.c (.int .i64 (.ofNat 2000)))),(12,1,(.c (.int .i64 (.ofNat 20)))),(13,1,(.c (.int .i64 (.ofNat 20)))),(14,1,(.c (.int .i64 (.ofNat 2500)))),(15,1,(.c (.int .i64 (.ofNat 20)))),(16,1,(.c (.int .i64 (.ofNat 64)))),(17,1,(.c (.int .i64 (.ofNat 60)))),(18,1,(.c (.int .i64 (.ofNat 100)))),(19,1,(.c (.int .i64 (.ofNat 440)))),(20,1,(.c (.int .i64 (.ofNat 400)))),(21,1,(.c (.int .i64 (.ofNat 2000)))),(22,1,(.c (.int .i64 (.ofNat 300)))),(23,1,(.c (.int .i64 (.ofNat 1)))),(24,1,(.c (.int .i64 (.ofNat 2)))),(25,1,(.c (.int .i64 (.ofNat 3)))),(26,1,(.c (.int .i64 (.ofNat 1)))),(27,1,(.c (.int .i64 (.ofNat 2)))),(28,1,(.c (.int .i64 (.ofNat 3)))),(29,1,(.c (.int .i64 (.ofNat 4)))),(30,1,(.c (.int .i64 (.ofNat 1)))),(31,1,(.c (.int .i64 (.ofNat 2)))),(32,1,(.c (.int .i64 (.ofNat 3))))]),
 .r p2 (.move (.t p5))])
 (.seq (.seq (.rg [.r p6 (.move (.t p1)),
 .r p7 (.bLen 1 (.t p6)),
 .r p8 (.move (.t p2)),
 .r p9 (.bLen 1 (.t p8)),
 .r p10 (.bin .neq (.t p7) (.t p9))])
 (.cond (.t p10) (.seq (.rg [.r p0 (.move (.c (.bool false)))])
 .ret) .skip))
 (.seq (.seq (.rg [.r p3 (.move (.c (.int .i64 (.ofNat 0))))])
 (.block 0 (.loop (.seq (.seq (.rg [.r p11 (.move (.t p3)),
 .r p12 (.move (.t p1)),
 .r p13 (.bLen 1 (.t p12)),
 .r p14 (.bin .lss (.t p11) (.t p13))])
 (.cond (.t p14) .skip (.exit 0)))
 (.seq (.block 1 (.seq (.rd [.r p17 (.move (.t p1)),
 .r p18 (.move (.t p3)),
 .r p19 (.idxAddrSl 1 (.t p17) (.t p18)),
 .r p20 (.load (.t p19)),
 .r p21 (.move (.t p2)),
 .r p22 (.move (.t p3)),
 .r p23 (.idxAddrSl 1 (.t p21) (.t p22)),
 .r p24 (.load (.t p23)),
 .r p25 (.bin .neq (.t p20) (.t p24))] [])
 (.cond (.t p25) (.seq (.rg [.r p0 (.move (.c (.bool false)))])
 .ret) .skip)))
 (.rg [.r p15 (.move (.t p3)),
 .r p16 (.bin .add (.t p15) (.c (.int .i64 (.ofNat 1)))),
 .r p3 (.move (.t p16))]))))))
 (.seq (.rg [.r p0 (.move (.c (.bool true)))])
 .ret)))))) [.t p0]
end Ax
