import Derived.Test.YtihcbhgacibecaaGreatDoorKData
set_option maxRecDepth 100000
namespace Go.Ax.K
open Go Go.Ax
theorem c71 : checkE CC t71 3000 e71 = true := by decide +kernel
theorem c72 : checkE CC t72 3000 e72 = true := by decide +kernel
theorem c73 : checkE CC t73 3000 e73 = true := by decide +kernel
theorem c74 : checkE CC t74 3000 e74 = true := by decide +kernel
theorem c75 : checkE CC t75 3000 e75 = true := by decide +kernel
theorem c76 : checkE CC t76 3000 e76 = true := by decide +kernel
end Go.Ax.K
