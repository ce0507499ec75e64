/- What is left to prove of the law. -/
import Derived.Test.YtdkmamiedcanfaaGreatW0
import Derived.Test.YtdkmamiedcanfaaGreatW1
import Derived.Test.YtdkmamiedcanfaaGreatW2
import Derived.Test.YtdkmamiedcanfaaGreatW3
import Derived.Test.YtdkmamiedcanfaaGreatW4
import Derived.Test.YtdkmamiedcanfaaGreatW5
import Derived.Test.YtdkmamiedcanfaaGreatW6
import Derived.Test.YtdkmamiedcanfaaGreatW7
import Derived.Test.YtdkmamiedcanfaaGreatW8
import Derived.Test.YtdkmamiedcanfaaGreatW9
import Derived.Test.YtdkmamiedcanfaaGreatW10
import Derived.Test.YtdkmamiedcanfaaGreatW11
import Derived.Test.YtdkmamiedcanfaaGreatW12
import Derived.Test.YtdkmamiedcanfaaGreatW13
import Derived.Test.YtdkmamiedcanfaaGreatW15
import Derived.Test.YtdkmamiedcanfaaGreatW17
set_option linter.unusedVariables false
set_option linter.unusedSimpArgs false
namespace Go.Proofs.YtdkmamiedcanfaaGreat
open Go Go.Fw
set_option maxRecDepth 100000
def CacheConverges.Pure:Prop:=∀(x0:(List TOp)) (x1:Filter) (x2:Int) (x3:Int),(okL Nb) x0→Jt x1→ok8 x2→okN x3→(wL GQ) x0+(Ft x1+(wN x2+(wN x3+0)))≤1048576→F6 x0 x1 x2 x3=some true
end Go.Proofs.YtdkmamiedcanfaaGreat
