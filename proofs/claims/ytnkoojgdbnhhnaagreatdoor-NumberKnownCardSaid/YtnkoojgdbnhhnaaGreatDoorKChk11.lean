import Derived.Test.YtnkoojgdbnhhnaaGreatDoorKData
set_option maxRecDepth 100000
namespace Go.Ax.K
open Go Go.Ax
theorem c72 : checkE CC t72 3000 e72 = true := by decide +kernel
theorem c73 : checkE CC t73 3000 e73 = true := by decide +kernel
theorem c74 : checkE CC t74 3000 e74 = true := by decide +kernel
theorem c75 : checkE CC t75 3000 e75 = true := by decide +kernel
theorem c76 : checkE CC t76 3000 e76 = true := by decide +kernel
theorem c77 : checkE CC t77 3000 e77 = true := by decide +kernel
theorem c78 : checkE CC t78 3000 e78 = true := by decide +kernel
end Go.Ax.K
