/- What is left to prove of the law. -/
import Derived.Test.YtdkmamiedcanfaaGreatW0
import Derived.Test.YtdkmamiedcanfaaGreatW1
import Derived.Test.YtdkmamiedcanfaaGreatW2
import Derived.Test.YtdkmamiedcanfaaGreatW3
import Derived.Test.YtdkmamiedcanfaaGreatW4
import Derived.Test.YtdkmamiedcanfaaGreatW5
import Derived.Test.YtdkmamiedcanfaaGreatW6
import Derived.Test.YtdkmamiedcanfaaGreatW7
import Derived.Test.YtdkmamiedcanfaaGreatW8
import Derived.Test.YtdkmamiedcanfaaGreatW9
import Derived.Test.YtdkmamiedcanfaaGreatW10
import Derived.Test.YtdkmamiedcanfaaGreatW11
import Derived.Test.YtdkmamiedcanfaaGreatW12
import Derived.Test.YtdkmamiedcanfaaGreatW13
import Derived.Test.YtdkmamiedcanfaaGreatW14
import Derived.Test.YtdkmamiedcanfaaGreatW20
import Derived.Test.YtdkmamiedcanfaaGreatW24
set_option linter.unusedVariables false
set_option linter.unusedSimpArgs false
namespace Go.Proofs.YtdkmamiedcanfaaGreat
open Go Go.Fw
set_option maxRecDepth 100000
def CacheRepeats.Pure:Prop:=∀(x0:Cache) (x1:(List Event)) (x2:Int),okCache x0→(okL okEvent) x1→ok8 x2→wCache x0+((wL wEvent) x1+(wN x2+0))≤1048576→F4 x0 x1 x2=some true
end Go.Proofs.YtdkmamiedcanfaaGreat
