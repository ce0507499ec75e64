/- What is left to prove of the law. -/
import Derived.Test.YtbopaemngpbdgaaDX5
set_option linter.unusedVariables false
set_option linter.unusedSimpArgs false
namespace Go.Proofs.Ytbopaemngpbdgaa
open Go Go.Fw
set_option maxRecDepth 100000
def StoreLists.Pure : Prop := ∀ (x0 : (List TOp)) (x1 : Filter), (okL okTOp) x0 → okFilter x1 → (wL wTOp) x0 + (wFilter x1 + 0) ≤ 1048576 → F6 x0 x1 = some true
end Go.Proofs.Ytbopaemngpbdgaa
