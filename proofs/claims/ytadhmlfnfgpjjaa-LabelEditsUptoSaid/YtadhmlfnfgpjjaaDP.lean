/- What is left to prove of the law. -/
import Derived.Test.YtadhmlfnfgpjjaaDX3
set_option linter.unusedVariables false
set_option linter.unusedSimpArgs false
namespace Go.Proofs.Ytadhmlfnfgpjjaa
open Go Go.Fw
set_option maxRecDepth 100000
def LabelEdits.Pure : Prop := ∀ (x0 : (List Label)) (x1 : ByteArray) (x2 : ByteArray) (x3 : ByteArray), (okL okLabel) x0 → okT x1 → okT x2 → okT x3 → (wL wLabel) x0 + (wS x1 + (wS x2 + (wS x3 + 0))) ≤ 1048576 → F9 x0 x1 x2 x3 = some true
end Go.Proofs.Ytadhmlfnfgpjjaa
