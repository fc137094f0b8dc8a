import Derived.Test.YtnkoojgdbnhhnaaGreatDoorKData
set_option maxRecDepth 100000
namespace Go.Ax.K
open Go Go.Ax
theorem c86 : checkE CC t86 3000 e86 = true := by decide +kernel
theorem c87 : checkE CC t87 3000 e87 = true := by decide +kernel
theorem c88 : checkE CC t88 3000 e88 = true := by decide +kernel
theorem c89 : checkE CC t89 3000 e89 = true := by decide +kernel
theorem c90 : checkE CC t90 3000 e90 = true := by decide +kernel
theorem c91 : checkE CC t91 3000 e91 = true := by decide +kernel
theorem c92 : checkE CC t92 3000 e92 = true := by decide +kernel
theorem c93 : checkE CC t93 3000 e93 = true := by decide +kernel
end Go.Ax.K
