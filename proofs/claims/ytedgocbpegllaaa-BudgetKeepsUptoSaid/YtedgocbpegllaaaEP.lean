/- What is left to prove of the law. -/
import Derived.Test.YtedgocbpegllaaaW0
import Derived.Test.YtedgocbpegllaaaW1
import Derived.Test.YtedgocbpegllaaaW2
import Derived.Test.YtedgocbpegllaaaW3
import Derived.Test.YtedgocbpegllaaaW4
import Derived.Test.YtedgocbpegllaaaW5
import Derived.Test.YtedgocbpegllaaaW6
import Derived.Test.YtedgocbpegllaaaW7
import Derived.Test.YtedgocbpegllaaaW8
import Derived.Test.YtedgocbpegllaaaW9
import Derived.Test.YtedgocbpegllaaaW10
set_option linter.unusedVariables false
set_option linter.unusedSimpArgs false
namespace Go.Proofs.Ytedgocbpegllaaa
open Go Go.Fw
set_option maxRecDepth 100000
def BudgetKeeps.Pure:Prop:=∀(x0:(List Budget)) (x1:(List Pod)) (x2:(List Int)) (x3:Int) (x4:Int),(okL okBudget) x0→(okL okPod) x1→(okL ok8) x2→okN x3→okN x4→(wL wBudget) x0+((wL wPod) x1+((wL wN) x2+(wN x3+(wN x4+0))))≤1048576→F5 x0 x1 x2 x3 x4=some true
end Go.Proofs.Ytedgocbpegllaaa
