/- What is left to prove of the law. -/
import Derived.Test.YtondgcmdhkhkkaaGreatW0
import Derived.Test.YtondgcmdhkhkkaaGreatW1
import Derived.Test.YtondgcmdhkhkkaaGreatW2
import Derived.Test.YtondgcmdhkhkkaaGreatW3
import Derived.Test.YtondgcmdhkhkkaaGreatW4
import Derived.Test.YtondgcmdhkhkkaaGreatW5
import Derived.Test.YtondgcmdhkhkkaaGreatW6
import Derived.Test.YtondgcmdhkhkkaaGreatW7
import Derived.Test.YtondgcmdhkhkkaaGreatW8
import Derived.Test.YtondgcmdhkhkkaaGreatW9
import Derived.Test.YtondgcmdhkhkkaaGreatW10
import Derived.Test.YtondgcmdhkhkkaaGreatW11
import Derived.Test.YtondgcmdhkhkkaaGreatW12
import Derived.Test.YtondgcmdhkhkkaaGreatW13
import Derived.Test.YtondgcmdhkhkkaaGreatW14
import Derived.Test.YtondgcmdhkhkkaaGreatW15
import Derived.Test.YtondgcmdhkhkkaaGreatW25
set_option linter.unusedVariables false
set_option linter.unusedSimpArgs false
namespace Go.Proofs.YtondgcmdhkhkkaaGreat
open Go Go.Fw
set_option maxRecDepth 100000
def WatchParts.Pure:Prop:=∀(x0:(List TOp)) (x1:Filter) (x2:(List Requirement)),(okL okTOp) x0→okFilter x1→(okL okRequirement) x2→(wL wTOp) x0+(wFilter x1+((wL wRequirement) x2+0))≤1048576→F7 x0 x1 x2=some true
end Go.Proofs.YtondgcmdhkhkkaaGreat
