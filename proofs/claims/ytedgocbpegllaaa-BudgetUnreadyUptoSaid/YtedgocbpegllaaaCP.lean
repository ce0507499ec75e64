/- What is left to prove of the law. -/
import Derived.Test.YtedgocbpegllaaaW0
import Derived.Test.YtedgocbpegllaaaW1
import Derived.Test.YtedgocbpegllaaaW2
import Derived.Test.YtedgocbpegllaaaW3
import Derived.Test.YtedgocbpegllaaaW4
import Derived.Test.YtedgocbpegllaaaW5
import Derived.Test.YtedgocbpegllaaaW6
import Derived.Test.YtedgocbpegllaaaW8
import Derived.Test.YtedgocbpegllaaaW10
import Derived.Test.YtedgocbpegllaaaW13
set_option linter.unusedVariables false
set_option linter.unusedSimpArgs false
namespace Go.Proofs.Ytedgocbpegllaaa
open Go Go.Fw
set_option maxRecDepth 100000
def BudgetUnready.Pure:Prop:=∀(x0:(List Budget)) (x1:(List Pod)) (x2:Int) (x3:Int),(okL okBudget) x0→(okL okPod) x1→ok8 x2→okN x3→(wL wBudget) x0+((wL wPod) x1+(wN x2+(wN x3+0)))≤1048576→F6 x0 x1 x2 x3=some true
end Go.Proofs.Ytedgocbpegllaaa
