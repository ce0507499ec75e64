/- What is left to prove of the law. -/
import Derived.Test.YtbopaemngpbdgaaGreatW0
import Derived.Test.YtbopaemngpbdgaaGreatW1
import Derived.Test.YtbopaemngpbdgaaGreatW2
import Derived.Test.YtbopaemngpbdgaaGreatW3
import Derived.Test.YtbopaemngpbdgaaGreatW4
import Derived.Test.YtbopaemngpbdgaaGreatW5
import Derived.Test.YtbopaemngpbdgaaGreatW6
import Derived.Test.YtbopaemngpbdgaaGreatW7
import Derived.Test.YtbopaemngpbdgaaGreatW8
import Derived.Test.YtbopaemngpbdgaaGreatW9
import Derived.Test.YtbopaemngpbdgaaGreatW10
import Derived.Test.YtbopaemngpbdgaaGreatW13
import Derived.Test.YtbopaemngpbdgaaGreatW14
import Derived.Test.YtbopaemngpbdgaaGreatW15
import Derived.Test.YtbopaemngpbdgaaGreatW16
set_option linter.unusedVariables false
set_option linter.unusedSimpArgs false
namespace Go.Proofs.YtbopaemngpbdgaaGreat
open Go Go.Fw
set_option maxRecDepth 100000
def StoreSays.Pure:Prop:=∀(x0:(List TOp)) (x1:Filter) (x2:ByteArray),(okL okTOp) x0→okFilter x1→okT x2→(wL wTOp) x0+(wFilter x1+(wS x2+0))≤1048576→F5 x0 x1 x2=some true
end Go.Proofs.YtbopaemngpbdgaaGreat
