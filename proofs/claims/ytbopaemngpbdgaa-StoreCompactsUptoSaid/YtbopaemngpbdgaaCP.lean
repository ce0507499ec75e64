/- What is left to prove of the law. -/
import Derived.Test.YtbopaemngpbdgaaCX
import Derived.Test.YtbopaemngpbdgaaCX2
import Derived.Test.YtbopaemngpbdgaaCX3
import Derived.Test.YtbopaemngpbdgaaCX4
import Derived.Test.YtbopaemngpbdgaaCX5
import Derived.Test.YtbopaemngpbdgaaCX6
import Derived.Test.YtbopaemngpbdgaaCX7
import Derived.Test.YtbopaemngpbdgaaCX8
import Derived.Test.YtbopaemngpbdgaaCX9
import Derived.Test.YtbopaemngpbdgaaCX10
import Derived.Test.YtbopaemngpbdgaaCX11
import Derived.Test.YtbopaemngpbdgaaCX12
import Derived.Test.YtbopaemngpbdgaaCX13
import Derived.Test.YtbopaemngpbdgaaCX14
import Derived.Test.YtbopaemngpbdgaaCX15
import Derived.Test.YtbopaemngpbdgaaCX16
import Derived.Test.YtbopaemngpbdgaaCX17
import Derived.Test.YtbopaemngpbdgaaCX18
import Derived.Test.YtbopaemngpbdgaaCX19
import Derived.Test.YtbopaemngpbdgaaCX20
import Derived.Test.YtbopaemngpbdgaaCX21
import Derived.Test.YtbopaemngpbdgaaCX22
import Derived.Test.YtbopaemngpbdgaaCX23
import Derived.Test.YtbopaemngpbdgaaCX24
import Derived.Test.YtbopaemngpbdgaaCX25
set_option linter.unusedVariables false
set_option linter.unusedSimpArgs false
namespace Go.Proofs.Ytbopaemngpbdgaa
open Go Go.Fw
set_option maxRecDepth 100000
def StoreCompacts.Pure:Prop:=∀(x0:(List TOp)) (x1:Int),(okL okTOp) x0→okN x1→(wL wTOp) x0+(wN x1+0)≤1048576→F5 x0 x1=some true
end Go.Proofs.Ytbopaemngpbdgaa
