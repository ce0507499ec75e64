/- What is left to prove of the law. -/
import Derived.Test.YtbopaemngpbdgaaRX4
set_option linter.unusedVariables false
set_option linter.unusedSimpArgs false
namespace Go.Proofs.Ytbopaemngpbdgaa
open Go Go.Fw
set_option maxRecDepth 100000
def StoreRevisions.Pure : Prop := ∀ (x0 : (List TOp)), (okL okTOp) x0 → (wL wTOp) x0 + 0 ≤ 1048576 → F3 x0 = some true
end Go.Proofs.Ytbopaemngpbdgaa
