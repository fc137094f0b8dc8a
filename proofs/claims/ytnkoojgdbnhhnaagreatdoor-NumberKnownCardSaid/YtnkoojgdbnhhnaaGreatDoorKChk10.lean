import Derived.Test.YtnkoojgdbnhhnaaGreatDoorKData
set_option maxRecDepth 100000
namespace Go.Ax.K
open Go Go.Ax
theorem c64 : checkE CC t64 3000 e64 = true := by decide +kernel
theorem c65 : checkE CC t65 3000 e65 = true := by decide +kernel
theorem c66 : checkE CC t66 3000 e66 = true := by decide +kernel
theorem c67 : checkE CC t67 3000 e67 = true := by decide +kernel
theorem c68 : checkE CC t68 3000 e68 = true := by decide +kernel
theorem c69 : checkE CC t69 3000 e69 = true := by decide +kernel
theorem c70 : checkE CC t70 3000 e70 = true := by decide +kernel
theorem c71 : checkE CC t71 3000 e71 = true := by decide +kernel
end Go.Ax.K
