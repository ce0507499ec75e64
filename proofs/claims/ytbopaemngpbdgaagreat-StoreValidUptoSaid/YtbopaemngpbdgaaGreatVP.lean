/- What is left to prove of the law. -/
import Derived.Test.YtbopaemngpbdgaaGreatW0
import Derived.Test.YtbopaemngpbdgaaGreatW1
import Derived.Test.YtbopaemngpbdgaaGreatW2
import Derived.Test.YtbopaemngpbdgaaGreatW3
import Derived.Test.YtbopaemngpbdgaaGreatW4
import Derived.Test.YtbopaemngpbdgaaGreatW5
import Derived.Test.YtbopaemngpbdgaaGreatW6
import Derived.Test.YtbopaemngpbdgaaGreatW7
import Derived.Test.YtbopaemngpbdgaaGreatW8
import Derived.Test.YtbopaemngpbdgaaGreatW9
import Derived.Test.YtbopaemngpbdgaaGreatW10
import Derived.Test.YtbopaemngpbdgaaGreatW11
import Derived.Test.YtbopaemngpbdgaaGreatW12
set_option linter.unusedVariables false
set_option linter.unusedSimpArgs false
namespace Go.Proofs.YtbopaemngpbdgaaGreat
open Go Go.Fw
set_option maxRecDepth 100000
def StoreValid.Pure:Prop:=∀(x0:TStore),okTStore x0→wTStore x0+0≤1048576→F4 x0=some true
end Go.Proofs.YtbopaemngpbdgaaGreat
