/- What is left to prove of the law. -/
import Derived.Test.YtojbebejhgbfeaaGreatW0
import Derived.Test.YtojbebejhgbfeaaGreatW1
import Derived.Test.YtojbebejhgbfeaaGreatW2
import Derived.Test.YtojbebejhgbfeaaGreatW3
import Derived.Test.YtojbebejhgbfeaaGreatW4
import Derived.Test.YtojbebejhgbfeaaGreatW5
import Derived.Test.YtojbebejhgbfeaaGreatW6
import Derived.Test.YtojbebejhgbfeaaGreatW7
import Derived.Test.YtojbebejhgbfeaaGreatW8
import Derived.Test.YtojbebejhgbfeaaGreatW9
import Derived.Test.YtojbebejhgbfeaaGreatW10
import Derived.Test.YtojbebejhgbfeaaGreatW11
import Derived.Test.YtojbebejhgbfeaaGreatW12
import Derived.Test.YtojbebejhgbfeaaGreatW13
import Derived.Test.YtojbebejhgbfeaaGreatW14
import Derived.Test.YtojbebejhgbfeaaGreatW15
import Derived.Test.YtojbebejhgbfeaaGreatW16
import Derived.Test.YtojbebejhgbfeaaGreatW17
import Derived.Test.YtojbebejhgbfeaaGreatW18
import Derived.Test.YtojbebejhgbfeaaGreatW19
import Derived.Test.YtojbebejhgbfeaaGreatW20
set_option linter.unusedVariables false
set_option linter.unusedSimpArgs false
namespace Go.Proofs.YtojbebejhgbfeaaGreat
open Go Go.Fw
set_option maxRecDepth 100000
def jV.Pure:Prop:=∀(x0:eC) (x1:Int) (x2:(List aN)),oY x0→ln x1→(tP iT) x2→sj x0+(wN x1+((wL dH) x2+0))≤1048576→F4 x0 x1 x2=some true
end Go.Proofs.YtojbebejhgbfeaaGreat
