/- What is left to prove of the law. -/
import Derived.Test.YtedgocbpegllaaaW0
import Derived.Test.YtedgocbpegllaaaW1
import Derived.Test.YtedgocbpegllaaaW2
import Derived.Test.YtedgocbpegllaaaW3
import Derived.Test.YtedgocbpegllaaaW4
import Derived.Test.YtedgocbpegllaaaW5
import Derived.Test.YtedgocbpegllaaaW6
import Derived.Test.YtedgocbpegllaaaW7
import Derived.Test.YtedgocbpegllaaaW12
set_option linter.unusedVariables false
set_option linter.unusedSimpArgs false
namespace Go.Proofs.Ytedgocbpegllaaa
open Go Go.Fw
set_option maxRecDepth 100000
def BudgetNumbers.Pure:Prop:=∀(x0:Budget) (x1:(List Pod)) (x2:Int) (x3:Int),okBudget x0→(okL okPod) x1→okN x2→okN x3→wBudget x0+((wL wPod) x1+(wN x2+(wN x3+0)))≤1048576→F7 x0 x1 x2 x3=some true
end Go.Proofs.Ytedgocbpegllaaa
