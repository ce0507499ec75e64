/- What is left to prove of the law. -/
import Derived.Test.YtdejhahgpojnoaaW0
import Derived.Test.YtdejhahgpojnoaaW1
import Derived.Test.YtdejhahgpojnoaaW2
import Derived.Test.YtdejhahgpojnoaaW3
import Derived.Test.YtdejhahgpojnoaaW4
import Derived.Test.YtdejhahgpojnoaaW5
import Derived.Test.YtdejhahgpojnoaaW6
import Derived.Test.YtdejhahgpojnoaaW7
import Derived.Test.YtdejhahgpojnoaaW8
import Derived.Test.YtdejhahgpojnoaaW9
import Derived.Test.YtdejhahgpojnoaaW10
import Derived.Test.YtdejhahgpojnoaaW11
set_option linter.unusedVariables false
set_option linter.unusedSimpArgs false
namespace Go.Proofs.Ytdejhahgpojnoaa
open Go Go.Fw
set_option maxRecDepth 100000
def GcFinds.Pure:Prop:=∀(x0:(List Object)) (x1:Int),(okL okObject) x0→okN x1→(wL wObject) x0+(wN x1+0)≤1048576→F4 x0 x1=some true
end Go.Proofs.Ytdejhahgpojnoaa
