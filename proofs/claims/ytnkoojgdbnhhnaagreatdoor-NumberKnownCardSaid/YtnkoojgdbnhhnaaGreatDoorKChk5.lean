import Derived.Test.YtnkoojgdbnhhnaaGreatDoorKData
set_option maxRecDepth 100000
namespace Go.Ax.K
open Go Go.Ax
theorem c31 : checkE CC t31 3000 e31 = true := by decide +kernel
theorem c32 : checkE CC t32 3000 e32 = true := by decide +kernel
theorem c33 : checkE CC t33 3000 e33 = true := by decide +kernel
theorem c34 : checkE CC t34 3000 e34 = true := by decide +kernel
theorem c35 : checkE CC t35 3000 e35 = true := by decide +kernel
theorem c36 : checkE CC t36 3000 e36 = true := by decide +kernel
theorem c37 : checkE CC t37 3000 e37 = true := by decide +kernel
theorem c38 : checkE CC t38 3000 e38 = true := by decide +kernel
end Go.Ax.K
