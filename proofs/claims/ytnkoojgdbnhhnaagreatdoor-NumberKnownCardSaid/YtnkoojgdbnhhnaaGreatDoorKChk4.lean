import Derived.Test.YtnkoojgdbnhhnaaGreatDoorKData
set_option maxRecDepth 100000
namespace Go.Ax.K
open Go Go.Ax
theorem c24 : checkE CC t24 3000 e24 = true := by decide +kernel
theorem c25 : checkE CC t25 3000 e25 = true := by decide +kernel
theorem c26 : checkE CC t26 3000 e26 = true := by decide +kernel
theorem c27 : checkE CC t27 3000 e27 = true := by decide +kernel
theorem c28 : checkE CC t28 3000 e28 = true := by decide +kernel
theorem c29 : checkE CC t29 3000 e29 = true := by decide +kernel
theorem c30 : checkE CC t30 3000 e30 = true := by decide +kernel
end Go.Ax.K
