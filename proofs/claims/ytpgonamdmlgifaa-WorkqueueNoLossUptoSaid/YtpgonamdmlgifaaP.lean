/- What is left to prove of each law. -/
import Derived.Test.YtpgonamdmlgifaaX3
set_option linter.unusedVariables false
set_option linter.unusedSimpArgs false
namespace Go.Proofs.Ytpgonamdmlgifaa
open Go Go.Fw
set_option maxRecDepth 100000
def WorkqueuePlays.Pure : Prop := ∀ (x0 : (List Op)), (okL okOp) x0 → (wL wOp) x0 + 0 ≤ 1048576 → F3 x0 = some true
def WorkqueueInvariant.Pure : Prop := ∀ (x0 : (List Op)), (okL okOp) x0 → (wL wOp) x0 + 0 ≤ 1048576 → F4 x0 = some true
def WorkqueueNoLoss.Pure : Prop := ∀ (x0 : (List Op)) (x1 : ByteArray), (okL okOp) x0 → okT x1 → (wL wOp) x0 + (wS x1 + 0) ≤ 1048576 → F5 x0 x1 = some true
def WorkqueueOne.Pure : Prop := ∀ (x0 : (List Op)), (okL okOp) x0 → (wL wOp) x0 + 0 ≤ 1048576 → F6 x0 = some true
end Go.Proofs.Ytpgonamdmlgifaa
