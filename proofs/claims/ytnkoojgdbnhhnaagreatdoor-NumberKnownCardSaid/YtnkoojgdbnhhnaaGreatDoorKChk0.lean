import Derived.Test.YtnkoojgdbnhhnaaGreatDoorKData
set_option maxRecDepth 100000
namespace Go.Ax.K
open Go Go.Ax
theorem c0 : checkE CC t0 3000 e0 = true := by decide +kernel
theorem c1 : checkE CC t1 3000 e1 = true := by decide +kernel
theorem c2 : checkE CC t2 3000 e2 = true := by decide +kernel
theorem c3 : checkE CC t3 3000 e3 = true := by decide +kernel
theorem c4 : checkE CC t4 3000 e4 = true := by decide +kernel
theorem c5 : checkE CC t5 3000 e5 = true := by decide +kernel
end Go.Ax.K
