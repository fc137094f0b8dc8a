import Derived.Test.YtnkoojgdbnhhnaaGreatDoorKData
set_option maxRecDepth 100000
namespace Go.Ax.K
open Go Go.Ax
theorem c79 : checkE CC t79 3000 e79 = true := by decide +kernel
theorem c80 : checkE CC t80 3000 e80 = true := by decide +kernel
theorem c81 : checkE CC t81 3000 e81 = true := by decide +kernel
theorem c82 : checkE CC t82 3000 e82 = true := by decide +kernel
theorem c83 : checkE CC t83 3000 e83 = true := by decide +kernel
theorem c84 : checkE CC t84 3000 e84 = true := by decide +kernel
theorem c85 : checkE CC t85 3000 e85 = true := by decide +kernel
end Go.Ax.K
