/- What is left to prove of each law. -/
import Derived.Test.YtihhlgbcbmoblaaBX3
set_option linter.unusedVariables false
set_option linter.unusedSimpArgs false
namespace Go.Proofs.Ytihhlgbcbmoblaa
open Go Go.Fw
set_option maxRecDepth 100000
def NodelifeLeaves.Pure : Prop := ∀ (x0 : (List Node)) (x1 : (List Pod)) (x2 : Int), (okL okNode) x0 → (okL okPod) x1 → okN x2 → (wL wNode) x0 + ((wL wPod) x1 + (wN x2 + 0)) ≤ 1048576 → F4 x0 x1 x2 = some true
end Go.Proofs.Ytihhlgbcbmoblaa
