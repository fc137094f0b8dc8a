import Derived.Test.YtnkoojgdbnhhnaaGreatDoorKData
set_option maxRecDepth 100000
namespace Go.Ax.K
open Go Go.Ax
theorem c55 : checkE CC t55 3000 e55 = true := by decide +kernel
theorem c56 : checkE CC t56 3000 e56 = true := by decide +kernel
theorem c57 : checkE CC t57 3000 e57 = true := by decide +kernel
end Go.Ax.K
