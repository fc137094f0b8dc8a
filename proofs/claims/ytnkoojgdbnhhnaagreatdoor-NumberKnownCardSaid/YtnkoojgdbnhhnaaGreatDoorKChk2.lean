import Derived.Test.YtnkoojgdbnhhnaaGreatDoorKData
set_option maxRecDepth 100000
namespace Go.Ax.K
open Go Go.Ax
theorem c10 : checkE CC t10 3000 e10 = true := by decide +kernel
theorem c11 : checkE CC t11 3000 e11 = true := by decide +kernel
theorem c12 : checkE CC t12 3000 e12 = true := by decide +kernel
theorem c13 : checkE CC t13 3000 e13 = true := by decide +kernel
theorem c14 : checkE CC t14 3000 e14 = true := by decide +kernel
theorem c15 : checkE CC t15 3000 e15 = true := by decide +kernel
end Go.Ax.K
