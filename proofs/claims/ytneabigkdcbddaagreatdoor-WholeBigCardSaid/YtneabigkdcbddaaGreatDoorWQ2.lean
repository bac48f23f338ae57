/- The runs for some remainders. -/
import Derived.Test.YtneabigkdcbddaaGreatDoorWP
set_option maxRecDepth 100000
namespace Ax
namespace Wn
theorem h8 (w x y z : AV) : okR p2 13 (exec rest call10 (f5 w x y z 8) st) = true := by kernel_rfl
end Wn
end Ax
