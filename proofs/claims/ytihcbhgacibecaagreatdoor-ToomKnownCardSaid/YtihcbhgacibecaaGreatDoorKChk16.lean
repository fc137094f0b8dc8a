import Derived.Test.YtihcbhgacibecaaGreatDoorKData
set_option maxRecDepth 100000
namespace Go.Ax.K
open Go Go.Ax
theorem c107 : checkE CC t107 3000 e107 = true := by decide +kernel
theorem c108 : checkE CC t108 3000 e108 = true := by decide +kernel
theorem c109 : checkE CC t109 3000 e109 = true := by decide +kernel
theorem c110 : checkE CC t110 3000 e110 = true := by decide +kernel
theorem c111 : checkE CC t111 3000 e111 = true := by decide +kernel
theorem c112 : checkE CC t112 3000 e112 = true := by decide +kernel
theorem c113 : checkE CC t113 3000 e113 = true := by decide +kernel
theorem c114 : checkE CC t114 3000 e114 = true := by decide +kernel
theorem c115 : checkE CC t115 3000 e115 = true := by decide +kernel
end Go.Ax.K
