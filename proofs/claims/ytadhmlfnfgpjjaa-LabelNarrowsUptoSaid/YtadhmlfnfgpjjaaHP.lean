/- What is left to prove of the law. -/
import Derived.Test.YtadhmlfnfgpjjaaHX3
set_option linter.unusedVariables false
set_option linter.unusedSimpArgs false
namespace Go.Proofs.Ytadhmlfnfgpjjaa
open Go Go.Fw
set_option maxRecDepth 100000
def LabelNarrows.Pure : Prop := ∀ (x0 : (List Requirement)) (x1 : (List Requirement)) (x2 : (List Label)), (okL okRequirement) x0 → (okL okRequirement) x1 → (okL okLabel) x2 → (wL wRequirement) x0 + ((wL wRequirement) x1 + ((wL wLabel) x2 + 0)) ≤ 1048576 → F10 x0 x1 x2 = some true
end Go.Proofs.Ytadhmlfnfgpjjaa
