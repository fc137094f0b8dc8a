import Derived.Test.YtnkoojgdbnhhnaaGreatDoorKData
set_option maxRecDepth 100000
namespace Go.Ax.K
open Go Go.Ax
theorem c103 : checkE CC t103 3000 e103 = true := by decide +kernel
theorem c104 : checkE CC t104 3000 e104 = true := by decide +kernel
theorem c105 : checkE CC t105 3000 e105 = true := by decide +kernel
theorem cw : isTrue (callF CC (engO CC tw 3000) 3 [] .e 0) = true := by decide +kernel
end Go.Ax.K
