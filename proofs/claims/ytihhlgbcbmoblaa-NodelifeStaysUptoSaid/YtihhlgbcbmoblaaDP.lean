/- What is left to prove of each law. -/
import Derived.Test.YtihhlgbcbmoblaaDX2
set_option linter.unusedVariables false
set_option linter.unusedSimpArgs false
namespace Go.Proofs.Ytihhlgbcbmoblaa
open Go Go.Fw
set_option maxRecDepth 100000
def NodelifeStays.Pure : Prop := ∀ (x0 : (List Node)) (x1 : (List Pod)) (x2 : Int) (x3 : Int), (okL okNode) x0 → (okL okPod) x1 → okN x2 → okN x3 → (wL wNode) x0 + ((wL wPod) x1 + (wN x2 + (wN x3 + 0))) ≤ 1048576 → F6 x0 x1 x2 x3 = some true
end Go.Proofs.Ytihhlgbcbmoblaa
