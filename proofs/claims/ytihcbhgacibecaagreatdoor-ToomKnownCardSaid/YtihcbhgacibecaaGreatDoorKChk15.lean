import Derived.Test.YtihcbhgacibecaaGreatDoorKData
set_option maxRecDepth 100000
namespace Go.Ax.K
open Go Go.Ax
theorem c99 : checkE CC t99 3000 e99 = true := by decide +kernel
theorem c100 : checkE CC t100 3000 e100 = true := by decide +kernel
theorem c101 : checkE CC t101 3000 e101 = true := by decide +kernel
theorem c102 : checkE CC t102 3000 e102 = true := by decide +kernel
theorem c103 : checkE CC t103 3000 e103 = true := by decide +kernel
theorem c104 : checkE CC t104 3000 e104 = true := by decide +kernel
theorem c105 : checkE CC t105 3000 e105 = true := by decide +kernel
theorem c106 : checkE CC t106 3000 e106 = true := by decide +kernel
end Go.Ax.K
