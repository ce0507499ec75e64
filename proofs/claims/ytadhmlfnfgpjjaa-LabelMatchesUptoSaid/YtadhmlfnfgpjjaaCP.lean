/- What is left to prove of the law. -/
import Derived.Test.YtadhmlfnfgpjjaaCX3
set_option linter.unusedVariables false
set_option linter.unusedSimpArgs false
namespace Go.Proofs.Ytadhmlfnfgpjjaa
open Go Go.Fw
set_option maxRecDepth 100000
def LabelMatches.Pure : Prop := ∀ (x0 : (List Requirement)) (x1 : (List Label)), (okL okRequirement) x0 → (okL okLabel) x1 → (wL wRequirement) x0 + ((wL wLabel) x1 + 0) ≤ 1048576 → F5 x0 x1 = some true
end Go.Proofs.Ytadhmlfnfgpjjaa
