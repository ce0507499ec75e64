/- What is left to prove of each law. -/
import Derived.Test.YtihhlgbcbmoblaaCX3
set_option linter.unusedVariables false
set_option linter.unusedSimpArgs false
namespace Go.Proofs.Ytihhlgbcbmoblaa
open Go Go.Fw
set_option maxRecDepth 100000
def NodelifeRecovers.Pure : Prop := ∀ (x0 : Node) (x1 : Int) (x2 : Int) (x3 : Int), okNode x0 → okN x1 → okN x2 → okN x3 → wNode x0 + (wN x1 + (wN x2 + (wN x3 + 0))) ≤ 1048576 → F5 x0 x1 x2 x3 = some true
end Go.Proofs.Ytihhlgbcbmoblaa
