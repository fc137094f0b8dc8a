import Derived.Test.YtnkoojgdbnhhnaaGreatDoorKData
set_option maxRecDepth 100000
namespace Go.Ax.K
open Go Go.Ax
theorem c16 : checkE CC t16 3000 e16 = true := by decide +kernel
theorem c17 : checkE CC t17 3000 e17 = true := by decide +kernel
theorem c18 : checkE CC t18 3000 e18 = true := by decide +kernel
theorem c19 : checkE CC t19 3000 e19 = true := by decide +kernel
theorem c20 : checkE CC t20 3000 e20 = true := by decide +kernel
theorem c21 : checkE CC t21 3000 e21 = true := by decide +kernel
theorem c22 : checkE CC t22 3000 e22 = true := by decide +kernel
theorem c23 : checkE CC t23 3000 e23 = true := by decide +kernel
end Go.Ax.K
