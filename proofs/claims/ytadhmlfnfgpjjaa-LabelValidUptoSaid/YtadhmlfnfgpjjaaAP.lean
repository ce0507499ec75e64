/- What is left to prove of the law. -/
import Derived.Test.YtadhmlfnfgpjjaaAX3
set_option linter.unusedVariables false
set_option linter.unusedSimpArgs false
namespace Go.Proofs.Ytadhmlfnfgpjjaa
open Go Go.Fw
set_option maxRecDepth 100000
def LabelValid.Pure : Prop := ∀ (x0 : (List Label)) (x1 : (List Requirement)), (okL okLabel) x0 → (okL okRequirement) x1 → (wL wLabel) x0 + ((wL wRequirement) x1 + 0) ≤ 1048576 → F3 x0 x1 = some true
end Go.Proofs.Ytadhmlfnfgpjjaa
