/- What is left to prove of the law. -/
import Derived.Test.YtbopaemngpbdgaaHX
import Derived.Test.YtbopaemngpbdgaaHX2
import Derived.Test.YtbopaemngpbdgaaHX3
import Derived.Test.YtbopaemngpbdgaaHX4
import Derived.Test.YtbopaemngpbdgaaHX5
import Derived.Test.YtbopaemngpbdgaaHX6
import Derived.Test.YtbopaemngpbdgaaHX7
import Derived.Test.YtbopaemngpbdgaaHX8
import Derived.Test.YtbopaemngpbdgaaHX9
import Derived.Test.YtbopaemngpbdgaaHX10
import Derived.Test.YtbopaemngpbdgaaHX11
import Derived.Test.YtbopaemngpbdgaaHX12
import Derived.Test.YtbopaemngpbdgaaHX13
import Derived.Test.YtbopaemngpbdgaaHX14
import Derived.Test.YtbopaemngpbdgaaHX15
import Derived.Test.YtbopaemngpbdgaaHX16
import Derived.Test.YtbopaemngpbdgaaHX17
import Derived.Test.YtbopaemngpbdgaaHX18
import Derived.Test.YtbopaemngpbdgaaHX19
import Derived.Test.YtbopaemngpbdgaaHX20
import Derived.Test.YtbopaemngpbdgaaHX21
import Derived.Test.YtbopaemngpbdgaaHX22
set_option linter.unusedVariables false
set_option linter.unusedSimpArgs false
namespace Go.Proofs.Ytbopaemngpbdgaa
open Go Go.Fw
set_option maxRecDepth 100000
def StoreHistory.Pure:Prop:=∀(x0:(List TOp)),(okL okTOp) x0→(wL wTOp) x0+0≤1048576→F4 x0=some true
end Go.Proofs.Ytbopaemngpbdgaa
