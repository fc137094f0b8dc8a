import Derived.Test.YtnkoojgdbnhhnaaGreatDoorKData
set_option maxRecDepth 100000
namespace Go.Ax.K
open Go Go.Ax
theorem c47 : checkE CC t47 3000 e47 = true := by decide +kernel
theorem c48 : checkE CC t48 3000 e48 = true := by decide +kernel
theorem c49 : checkE CC t49 3000 e49 = true := by decide +kernel
theorem c50 : checkE CC t50 3000 e50 = true := by decide +kernel
theorem c51 : checkE CC t51 3000 e51 = true := by decide +kernel
theorem c52 : checkE CC t52 3000 e52 = true := by decide +kernel
theorem c53 : checkE CC t53 3000 e53 = true := by decide +kernel
theorem c54 : checkE CC t54 3000 e54 = true := by decide +kernel
end Go.Ax.K
