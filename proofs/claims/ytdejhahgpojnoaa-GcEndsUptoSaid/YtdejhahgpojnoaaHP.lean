/- What is left to prove of the law. -/
import Derived.Test.YtdejhahgpojnoaaW0
import Derived.Test.YtdejhahgpojnoaaW1
import Derived.Test.YtdejhahgpojnoaaW2
import Derived.Test.YtdejhahgpojnoaaW3
import Derived.Test.YtdejhahgpojnoaaW4
import Derived.Test.YtdejhahgpojnoaaW5
import Derived.Test.YtdejhahgpojnoaaW6
import Derived.Test.YtdejhahgpojnoaaW7
import Derived.Test.YtdejhahgpojnoaaW8
import Derived.Test.YtdejhahgpojnoaaW9
import Derived.Test.YtdejhahgpojnoaaW10
import Derived.Test.YtdejhahgpojnoaaW11
import Derived.Test.YtdejhahgpojnoaaW12
import Derived.Test.YtdejhahgpojnoaaW14
set_option linter.unusedVariables false
set_option linter.unusedSimpArgs false
namespace Go.Proofs.Ytdejhahgpojnoaa
open Go Go.Fw
set_option maxRecDepth 100000
def GcEnds.Pure:Prop:=∀(x0:(List Object)),(okL okObject) x0→(wL wObject) x0+0≤1048576→F5 x0=some true
end Go.Proofs.Ytdejhahgpojnoaa
