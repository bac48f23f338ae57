/- The table of the functions. -/
import Derived.Test.YtkpbmaoaedaafaaI0
namespace Ax
def tblT : Tr IFn := (.node none (.node none (.node (some i3) .nil .nil) .nil) .nil)
end Ax
