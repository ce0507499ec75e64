/- What is left to prove of the law. -/
import Derived.Test.YtondgcmdhkhkkaaGreatAX
import Derived.Test.YtondgcmdhkhkkaaGreatAX2
import Derived.Test.YtondgcmdhkhkkaaGreatAX3
import Derived.Test.YtondgcmdhkhkkaaGreatAX4
import Derived.Test.YtondgcmdhkhkkaaGreatAX5
import Derived.Test.YtondgcmdhkhkkaaGreatAX6
import Derived.Test.YtondgcmdhkhkkaaGreatAX7
import Derived.Test.YtondgcmdhkhkkaaGreatAX8
import Derived.Test.YtondgcmdhkhkkaaGreatAX9
import Derived.Test.YtondgcmdhkhkkaaGreatAX10
import Derived.Test.YtondgcmdhkhkkaaGreatAX11
import Derived.Test.YtondgcmdhkhkkaaGreatAX12
import Derived.Test.YtondgcmdhkhkkaaGreatAX13
import Derived.Test.YtondgcmdhkhkkaaGreatAX14
import Derived.Test.YtondgcmdhkhkkaaGreatAX15
import Derived.Test.YtondgcmdhkhkkaaGreatAX16
import Derived.Test.YtondgcmdhkhkkaaGreatAX17
import Derived.Test.YtondgcmdhkhkkaaGreatAX18
import Derived.Test.YtondgcmdhkhkkaaGreatAX19
import Derived.Test.YtondgcmdhkhkkaaGreatAX20
import Derived.Test.YtondgcmdhkhkkaaGreatAX21
import Derived.Test.YtondgcmdhkhkkaaGreatAX22
import Derived.Test.YtondgcmdhkhkkaaGreatAX23
import Derived.Test.YtondgcmdhkhkkaaGreatAX24
import Derived.Test.YtondgcmdhkhkkaaGreatAX25
import Derived.Test.YtondgcmdhkhkkaaGreatAX26
import Derived.Test.YtondgcmdhkhkkaaGreatAX27
set_option linter.unusedVariables false
set_option linter.unusedSimpArgs false
namespace Go.Proofs.YtondgcmdhkhkkaaGreat
open Go Go.Fw
set_option maxRecDepth 100000
def WatchSays.Pure:Prop:=∀(x0:(List TOp)) (x1:Watcher) (x2:Int),(okL okTOp) x0→okWatcher x1→okN x2→(wL wTOp) x0+(wWatcher x1+(wN x2+0))≤1048576→F3 x0 x1 x2=some true
end Go.Proofs.YtondgcmdhkhkkaaGreat
