/- What is left to prove of the law. -/
import Derived.Test.YtfkkccgopmcnaaaAX2
set_option linter.unusedVariables false
set_option linter.unusedSimpArgs false
namespace Go.Proofs.Ytfkkccgopmcnaaa
open Go Go.Fw
set_option maxRecDepth 100000
def EndpointsDiffs.Pure : Prop := ∀ (x0 : (List Endpoint)) (x1 : (List Endpoint)), (okL okEndpoint) x0 → (okL okEndpoint) x1 → (wL wEndpoint) x0 + ((wL wEndpoint) x1 + 0) ≤ 1048576 → F4 x0 x1 = some true
end Go.Proofs.Ytfkkccgopmcnaaa
