/- What is left to prove of the law. -/
import Derived.Test.YtfkkccgopmcnaaaW0
import Derived.Test.YtfkkccgopmcnaaaW1
import Derived.Test.YtfkkccgopmcnaaaW2
import Derived.Test.YtfkkccgopmcnaaaW3
import Derived.Test.YtfkkccgopmcnaaaW4
import Derived.Test.YtfkkccgopmcnaaaW5
import Derived.Test.YtfkkccgopmcnaaaW6
import Derived.Test.YtfkkccgopmcnaaaW7
import Derived.Test.YtfkkccgopmcnaaaW8
import Derived.Test.YtfkkccgopmcnaaaW9
import Derived.Test.YtfkkccgopmcnaaaW10
import Derived.Test.YtfkkccgopmcnaaaW11
import Derived.Test.YtfkkccgopmcnaaaW12
import Derived.Test.YtfkkccgopmcnaaaW13
import Derived.Test.YtfkkccgopmcnaaaW16
set_option linter.unusedVariables false
set_option linter.unusedSimpArgs false
namespace Go.Proofs.Ytfkkccgopmcnaaa
open Go Go.Fw
set_option maxRecDepth 100000
def EndpointsOrder.Pure:Prop:=∀(x0:Service) (x1:(List Pod)) (x2:Int),okService x0→(okL okPod) x1→ok8 x2→wService x0+((wL wPod) x1+(wN x2+0))≤1048576→F6 x0 x1 x2=some true
end Go.Proofs.Ytfkkccgopmcnaaa
