import Derived.Test.YtnkoojgdbnhhnaaGreatDoorKData
set_option maxRecDepth 100000
namespace Go.Ax.K
open Go Go.Ax
theorem c39 : checkE CC t39 3000 e39 = true := by decide +kernel
theorem c40 : checkE CC t40 3000 e40 = true := by decide +kernel
theorem c41 : checkE CC t41 3000 e41 = true := by decide +kernel
theorem c42 : checkE CC t42 3000 e42 = true := by decide +kernel
theorem c43 : checkE CC t43 3000 e43 = true := by decide +kernel
theorem c44 : checkE CC t44 3000 e44 = true := by decide +kernel
theorem c45 : checkE CC t45 3000 e45 = true := by decide +kernel
theorem c46 : checkE CC t46 3000 e46 = true := by decide +kernel
end Go.Ax.K
