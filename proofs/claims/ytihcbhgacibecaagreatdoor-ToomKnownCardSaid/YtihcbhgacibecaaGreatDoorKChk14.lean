import Derived.Test.YtihcbhgacibecaaGreatDoorKData
set_option maxRecDepth 100000
namespace Go.Ax.K
open Go Go.Ax
theorem c92 : checkE CC t92 3000 e92 = true := by decide +kernel
theorem c93 : checkE CC t93 3000 e93 = true := by decide +kernel
theorem c94 : checkE CC t94 3000 e94 = true := by decide +kernel
theorem c95 : checkE CC t95 3000 e95 = true := by decide +kernel
theorem c96 : checkE CC t96 3000 e96 = true := by decide +kernel
theorem c97 : checkE CC t97 3000 e97 = true := by decide +kernel
theorem c98 : checkE CC t98 3000 e98 = true := by decide +kernel
end Go.Ax.K
