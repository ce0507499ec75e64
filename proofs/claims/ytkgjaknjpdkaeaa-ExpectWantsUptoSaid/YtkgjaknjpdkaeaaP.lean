/- What is left to prove of each law. -/
import Derived.Test.YtkgjaknjpdkaeaaX2
set_option linter.unusedVariables false
set_option linter.unusedSimpArgs false
namespace Go.Proofs.Ytkgjaknjpdkaeaa
open Go Go.Fw
set_option maxRecDepth 100000
def ExpectWants.Pure : Prop := ∀ (x0 : (List Expectation)) (x1 : ByteArray) (x2 : Int) (x3 : (List ByteArray)) (x4 : Int), (okL okExpectation) x0 → okT x1 → okN x2 → (okL okT) x3 → okN x4 → (wL wExpectation) x0 + (wS x1 + (wN x2 + ((wL wS) x3 + (wN x4 + 0)))) ≤ 1048576 → F3 x0 x1 x2 x3 x4 = some true
def ExpectSees.Pure : Prop := ∀ (x0 : (List Expectation)) (x1 : ByteArray) (x2 : ByteArray) (x3 : Int) (x4 : Int), (okL okExpectation) x0 → okT x1 → okT x2 → okN x3 → okN x4 → (wL wExpectation) x0 + (wS x1 + (wS x2 + (wN x3 + (wN x4 + 0)))) ≤ 1048576 → F4 x0 x1 x2 x3 x4 = some true
def ExpectSettles.Pure : Prop := ∀ (x0 : (List Expectation)) (x1 : ByteArray) (x2 : (List ByteArray)) (x3 : (List Bool)) (x4 : Int), (okL okExpectation) x0 → okT x1 → (okL okT) x2 → (okL okT) x3 → okN x4 → (wL wExpectation) x0 + (wS x1 + ((wL wS) x2 + ((wL wN) x3 + (wN x4 + 0)))) ≤ 1048576 → F5 x0 x1 x2 x3 x4 = some true
def ExpectOthers.Pure : Prop := ∀ (x0 : (List Expectation)) (x1 : ByteArray) (x2 : ByteArray) (x3 : ByteArray) (x4 : (List ByteArray)), (okL okExpectation) x0 → okT x1 → okT x2 → okT x3 → (okL okT) x4 → (wL wExpectation) x0 + (wS x1 + (wS x2 + (wS x3 + ((wL wS) x4 + 0)))) ≤ 1048576 → F6 x0 x1 x2 x3 x4 = some true
end Go.Proofs.Ytkgjaknjpdkaeaa
