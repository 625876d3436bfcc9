/- Walks, printed by a program of this claim's author. -/
import Derived.Test.YtocpdkhahmbaiaaDoorChecked
import Derived.Test.YtocpdkhahmbaiaaDoorUt
import Derived.Test.YtocpdkhahmbaiaaDoorWb
import Derived.Test.YtocpdkhahmbaiaaDoorFt
import Derived.Test.YtocpdkhahmbaiaaDoorSi
namespace Go.Proofs.YtocpdkhahmbaiaaDoor
open Go Go.RowKit Fw
set_option maxRecDepth 10000
set_option linter.unusedVariables false
theorem mo : Tryd.prog.follows .mixedOrders = true := by kernel_rfl



end Go.Proofs.YtocpdkhahmbaiaaDoor
