import Derived.Test.YtnkoojgdbnhhnaaGreatDoorKData
set_option maxRecDepth 100000
namespace Go.Ax.K
open Go Go.Ax
theorem c94 : checkE CC t94 3000 e94 = true := by decide +kernel
theorem c95 : checkE CC t95 3000 e95 = true := by decide +kernel
theorem c96 : checkE CC t96 3000 e96 = true := by decide +kernel
theorem c97 : checkE CC t97 3000 e97 = true := by decide +kernel
theorem c98 : checkE CC t98 3000 e98 = true := by decide +kernel
theorem c99 : checkE CC t99 3000 e99 = true := by decide +kernel
theorem c100 : checkE CC t100 3000 e100 = true := by decide +kernel
theorem c101 : checkE CC t101 3000 e101 = true := by decide +kernel
theorem c102 : checkE CC t102 3000 e102 = true := by decide +kernel
end Go.Ax.K
