import Derived.Test.YtihcbhgacibecaaGreatDoorKData
set_option maxRecDepth 100000
namespace Go.Ax.K
open Go Go.Ax
theorem c116 : checkE CC t116 3000 e116 = true := by decide +kernel
theorem c117 : checkE CC t117 3000 e117 = true := by decide +kernel
theorem c118 : checkE CC t118 3000 e118 = true := by decide +kernel
theorem c119 : checkE CC t119 3000 e119 = true := by decide +kernel
theorem c120 : checkE CC t120 3000 e120 = true := by decide +kernel
theorem c121 : checkE CC t121 3000 e121 = true := by decide +kernel
theorem c122 : checkE CC t122 3000 e122 = true := by decide +kernel
theorem c123 : checkE CC t123 3000 e123 = true := by decide +kernel
theorem cw : isTrue (callF CC (engO CC tw 3000) 10 [] .e 0) = true := by decide +kernel
end Go.Ax.K
