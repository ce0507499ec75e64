/- What is left to prove of the law. -/
import Derived.Test.YtadhmlfnfgpjjaaBX3
set_option linter.unusedVariables false
set_option linter.unusedSimpArgs false
namespace Go.Proofs.Ytadhmlfnfgpjjaa
open Go Go.Fw
set_option maxRecDepth 100000
def LabelLookup.Pure : Prop := ∀ (x0 : (List Label)) (x1 : ByteArray) (x2 : ByteArray), (okL okLabel) x0 → okT x1 → okT x2 → (wL wLabel) x0 + (wS x1 + (wS x2 + 0)) ≤ 1048576 → F4 x0 x1 x2 = some true
end Go.Proofs.Ytadhmlfnfgpjjaa
