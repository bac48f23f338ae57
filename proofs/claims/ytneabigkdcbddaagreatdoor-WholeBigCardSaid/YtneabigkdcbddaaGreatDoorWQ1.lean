/- The runs for some remainders. -/
import Derived.Test.YtneabigkdcbddaaGreatDoorWP
set_option maxRecDepth 100000
namespace Ax
namespace Wn
theorem h4 (w x y z : AV) : okR p2 13 (exec rest call10 (f5 w x y z 4) st) = true := by kernel_rfl
theorem h5 (w x y z : AV) : okR p2 13 (exec rest call10 (f5 w x y z 5) st) = true := by kernel_rfl
theorem h6 (w x y z : AV) : okR p2 13 (exec rest call10 (f5 w x y z 6) st) = true := by kernel_rfl
theorem h7 (w x y z : AV) : okR p2 13 (exec rest call10 (f5 w x y z 7) st) = true := by kernel_rfl
end Wn
end Ax
