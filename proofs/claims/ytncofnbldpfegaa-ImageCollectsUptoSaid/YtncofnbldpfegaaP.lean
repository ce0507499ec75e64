/- What is left to prove of each law. -/
import Derived.Test.YtncofnbldpfegaaX
set_option linter.unusedVariables false
set_option linter.unusedSimpArgs false
namespace Go.Proofs.Ytncofnbldpfegaa
open Go Go.Fw
set_option maxRecDepth 100000
def ImageUses.Pure : Prop := ∀ (x0 : (List Image)) (x1 : ByteArray) (x2 : Int) (x3 : Int), (okL okImage) x0 → okT x1 → okN x2 → okN x3 → (wL wImage) x0 + (wS x1 + (wN x2 + (wN x3 + 0))) ≤ 1048576 → F3 x0 x1 x2 x3 = some true
def ImageCollects.Pure : Prop := ∀ (x0 : (List Image)) (x1 : (List ByteArray)) (x2 : Int) (x3 : Int) (x4 : Int), (okL okImage) x0 → (okL okT) x1 → okN x2 → okN x3 → okN x4 → (wL wImage) x0 + ((wL wS) x1 + (wN x2 + (wN x3 + (wN x4 + 0)))) ≤ 1048576 → F4 x0 x1 x2 x3 x4 = some true
def ImageKeepsUsed.Pure : Prop := ∀ (x0 : (List Image)) (x1 : (List ByteArray)) (x2 : Int) (x3 : Int) (x4 : Int), (okL okImage) x0 → (okL okT) x1 → okN x2 → okN x3 → okN x4 → (wL wImage) x0 + ((wL wS) x1 + (wN x2 + (wN x3 + (wN x4 + 0)))) ≤ 1048576 → F5 x0 x1 x2 x3 x4 = some true
def ImageFrees.Pure : Prop := ∀ (x0 : (List Image)) (x1 : (List ByteArray)) (x2 : Int) (x3 : Int) (x4 : Int), (okL okImage) x0 → (okL okT) x1 → okN x2 → okN x3 → okN x4 → (wL wImage) x0 + ((wL wS) x1 + (wN x2 + (wN x3 + (wN x4 + 0)))) ≤ 1048576 → F6 x0 x1 x2 x3 x4 = some true
end Go.Proofs.Ytncofnbldpfegaa
