/- What is left to prove of the law. -/
import Derived.Test.YtbopaemngpbdgaaGreatSX
import Derived.Test.YtbopaemngpbdgaaGreatSX2
import Derived.Test.YtbopaemngpbdgaaGreatSX3
import Derived.Test.YtbopaemngpbdgaaGreatSX4
import Derived.Test.YtbopaemngpbdgaaGreatSX5
import Derived.Test.YtbopaemngpbdgaaGreatSX6
import Derived.Test.YtbopaemngpbdgaaGreatSX7
import Derived.Test.YtbopaemngpbdgaaGreatSX8
import Derived.Test.YtbopaemngpbdgaaGreatSX9
import Derived.Test.YtbopaemngpbdgaaGreatSX10
import Derived.Test.YtbopaemngpbdgaaGreatSX11
import Derived.Test.YtbopaemngpbdgaaGreatSX12
import Derived.Test.YtbopaemngpbdgaaGreatSX13
import Derived.Test.YtbopaemngpbdgaaGreatSX14
import Derived.Test.YtbopaemngpbdgaaGreatSX15
import Derived.Test.YtbopaemngpbdgaaGreatSX16
import Derived.Test.YtbopaemngpbdgaaGreatSX17
import Derived.Test.YtbopaemngpbdgaaGreatSX18
import Derived.Test.YtbopaemngpbdgaaGreatSX19
import Derived.Test.YtbopaemngpbdgaaGreatSX20
import Derived.Test.YtbopaemngpbdgaaGreatSX21
import Derived.Test.YtbopaemngpbdgaaGreatSX22
import Derived.Test.YtbopaemngpbdgaaGreatSX23
import Derived.Test.YtbopaemngpbdgaaGreatSX24
set_option linter.unusedVariables false
set_option linter.unusedSimpArgs false
namespace Go.Proofs.YtbopaemngpbdgaaGreat
open Go Go.Fw
set_option maxRecDepth 100000
def StoreStale.Pure:Prop:=∀(x0:(List TOp)) (x1:Object) (x2:Int),(okL okTOp) x0→okObject x1→okN x2→(wL wTOp) x0+(wObject x1+(wN x2+0))≤1048576→F3 x0 x1 x2=some true
end Go.Proofs.YtbopaemngpbdgaaGreat
