/- What is left to prove of each law. -/
import Derived.Test.YtdpbdbclninjaaaX3
set_option linter.unusedVariables false
set_option linter.unusedSimpArgs false
namespace Go.Proofs.Ytdpbdbclninjaaa
open Go Go.Fw
set_option maxRecDepth 100000
def SchedqueuePlays.Pure : Prop := ∀ (x0 : (List Act)), (okL okAct) x0 → (wL wAct) x0 + 0 ≤ 1048576 → F3 x0 = some true
def SchedqueueOnce.Pure : Prop := ∀ (x0 : (List Act)) (x1 : ByteArray), (okL okAct) x0 → okT x1 → (wL wAct) x0 + (wS x1 + 0) ≤ 1048576 → F4 x0 x1 = some true
def SchedqueueFair.Pure : Prop := ∀ (x0 : (List Act)), (okL okAct) x0 → (wL wAct) x0 + 0 ≤ 1048576 → F5 x0 = some true
def SchedqueueWaits.Pure : Prop := ∀ (x0 : (List Act)) (x1 : ByteArray) (x2 : Int) (x3 : Int), (okL okAct) x0 → okT x1 → okN x2 → okN x3 → (wL wAct) x0 + (wS x1 + (wN x2 + (wN x3 + 0))) ≤ 1048576 → F6 x0 x1 x2 x3 = some true
end Go.Proofs.Ytdpbdbclninjaaa
