import Derived.Test.YtnkoojgdbnhhnaaGreatDoorKData
set_option maxRecDepth 100000
namespace Go.Ax.K
open Go Go.Ax
theorem c6 : checkE CC t6 3000 e6 = true := by decide +kernel
theorem c7 : checkE CC t7 3000 e7 = true := by decide +kernel
theorem c8 : checkE CC t8 3000 e8 = true := by decide +kernel
theorem c9 : checkE CC t9 3000 e9 = true := by decide +kernel
end Go.Ax.K
