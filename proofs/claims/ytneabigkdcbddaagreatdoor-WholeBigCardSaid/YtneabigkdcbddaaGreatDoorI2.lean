/- Functions, as the abstract run takes them. -/
import Derived.Test.YtneabigkdcbddaaGreatDoorP
set_option maxRecDepth 100000
namespace Ax
open Z
def i457 : IFn := .go (q (.rg [M p10 t1,B p11 .add t10 (ci 1),M p8 t11])
(.block 0 (.loop (q (q (.rg [M p12 t8,M p13 t2,B p14 .lss t12 t13])
(.cond t14 .skip (.exit 0)))
(q (.block 1 (q (.rg [M p17 t8,M p9 t17])
(.block 2 (.loop (q (q (.rd [M p18 t9,M p19 t1,B p20 .gtr t18 t19,M p21 t20,G p22 p21 true (.move t3),G p23 p21 true (.move t0),G p24 p21 true (.move t9),G p25 p21 true (.idxAddrSl 2 t23 t24),G p26 p21 true (.loadN 2 t25),G p27 p21 true (.move t0),G p28 p21 true (.move t9),G p29 p21 true (.bin .sub t28 (ci 1)),G p30 p21 true (.idxAddrSl 2 t27 t29),G p31 p21 true (.loadN 2 t30),G p32 p21 true (.callV t22 [t26,t31]),G p33 p21 true (.bin .lss t32 (ci 0)),Q p34 t21 t33 cf] [])
(.cond t34 .skip (.exit 2)))
(q (.block 3 (.rd [M p37 t0,M p38 t9,M p42 t0,M p43 t9,B p44 .sub t43 (ci 1),I p45 2 t42 t44,D p46 2 t45,M p47 t0,M p48 t9,I p49 2 t47 t48,D p50 2 t49,I p51 2 t37 t38,T 2 t51 t46,M p39 t0,M p40 t9,B p41 .sub t40 (ci 1),I p52 2 t39 t41,T 2 t52 t50] []))
(.rg [M p35 t9,B p36 .sub t35 (ci 1),M p9 t36])))))))
(.rg [M p15 t8,B p16 .add t15 (ci 1),M p8 t16])))))) []
end Ax
