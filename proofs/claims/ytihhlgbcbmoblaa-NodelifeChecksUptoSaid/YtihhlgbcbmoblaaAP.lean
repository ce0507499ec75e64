/- What is left to prove of each law. -/
import Derived.Test.YtihhlgbcbmoblaaAX3
set_option linter.unusedVariables false
set_option linter.unusedSimpArgs false
namespace Go.Proofs.Ytihhlgbcbmoblaa
open Go Go.Fw
set_option maxRecDepth 100000
def NodelifeChecks.Pure : Prop := ∀ (x0 : Node) (x1 : Int) (x2 : Int), okNode x0 → okN x1 → okN x2 → wNode x0 + (wN x1 + (wN x2 + 0)) ≤ 1048576 → F3 x0 x1 x2 = some true
end Go.Proofs.Ytihhlgbcbmoblaa
