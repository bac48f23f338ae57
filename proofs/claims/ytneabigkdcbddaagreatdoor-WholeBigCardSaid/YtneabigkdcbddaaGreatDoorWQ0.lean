/- The runs for some remainders. -/
import Derived.Test.YtneabigkdcbddaaGreatDoorWP
set_option maxRecDepth 100000
namespace Ax
namespace Wn
theorem h0 (w x y z : AV) : okR p2 13 (exec rest call10 (f5 w x y z 0) st) = true := by kernel_rfl
theorem h1 (w x y z : AV) : okR p2 13 (exec rest call10 (f5 w x y z 1) st) = true := by kernel_rfl
theorem h2 (w x y z : AV) : okR p2 13 (exec rest call10 (f5 w x y z 2) st) = true := by kernel_rfl
theorem h3 (w x y z : AV) : okR p2 13 (exec rest call10 (f5 w x y z 3) st) = true := by kernel_rfl
end Wn
end Ax
