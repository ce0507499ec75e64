/- What is left to prove of the law. -/
import Derived.Test.YtadhmlfnfgpjjaaPX
import Derived.Test.YtadhmlfnfgpjjaaPX2
import Derived.Test.YtadhmlfnfgpjjaaPX3
import Derived.Test.YtadhmlfnfgpjjaaPX4
import Derived.Test.YtadhmlfnfgpjjaaPX5
import Derived.Test.YtadhmlfnfgpjjaaPX6
set_option linter.unusedVariables false
set_option linter.unusedSimpArgs false
namespace Go.Proofs.Ytadhmlfnfgpjjaa
open Go Go.Fw
set_option maxRecDepth 100000
def LabelParses.Pure:Prop:=∀(x0:ByteArray),okT x0→wS x0+0≤1048576→F6 x0=some true
end Go.Proofs.Ytadhmlfnfgpjjaa
