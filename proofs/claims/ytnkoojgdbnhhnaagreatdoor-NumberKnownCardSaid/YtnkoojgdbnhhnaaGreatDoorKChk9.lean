import Derived.Test.YtnkoojgdbnhhnaaGreatDoorKData
set_option maxRecDepth 100000
namespace Go.Ax.K
open Go Go.Ax
theorem c58 : checkE CC t58 3000 e58 = true := by decide +kernel
theorem c59 : checkE CC t59 3000 e59 = true := by decide +kernel
theorem c60 : checkE CC t60 3000 e60 = true := by decide +kernel
theorem c61 : checkE CC t61 3000 e61 = true := by decide +kernel
theorem c62 : checkE CC t62 3000 e62 = true := by decide +kernel
theorem c63 : checkE CC t63 3000 e63 = true := by decide +kernel
end Go.Ax.K
