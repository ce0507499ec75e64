/- What is left to prove of the law. -/
import Derived.Test.YtadhmlfnfgpjjaaEX3
set_option linter.unusedVariables false
set_option linter.unusedSimpArgs false
namespace Go.Proofs.Ytadhmlfnfgpjjaa
open Go Go.Fw
set_option maxRecDepth 100000
def LabelPrints.Pure : Prop := ∀ (x0 : (List Requirement)), (okL okRequirement) x0 → (wL wRequirement) x0 + 0 ≤ 1048576 → F7 x0 = some true
end Go.Proofs.Ytadhmlfnfgpjjaa
