/- Each Go function as a function over typed data, and its walk. -/
import Derived.Test.YtedgocbpegllaaaW0
namespace Go.Proofs.Ytedgocbpegllaaa
open Go Go.Fw Go.Shelf
set_option maxRecDepth 100000
set_option maxHeartbeats 4000000
set_option linter.unusedSimpArgs false
set_option linter.unusedVariables false
def F22(x0:Int)(x1:Int)(x2:Int):Option (Unit):=some (())
def a22:AFn:=⟨12,[(.tmp 6)],
 (.seq (.reg [Qe 6 0])
 (.seq (.reg [Qa 7 0,
Qa 8 1,
sq 9 (.max (.t 7) (.t 8)),
Qa 10 2,
sq 11 (.min (.t 9) (.t 10)),
Qa 6 11])
 .ret))⟩
theorem F22_ok{x0 x1 x2 r}(h:F22 x0 x1 x2=some r):CallD Try.prog 22 [.c (dI x0),.c (dI x1),.c (dI x2)] [] (tupV [.c (dI ((if x2<(if x0<x1 then x1 else x0)then x2 else(if x0<x1 then x1 else x0))))]) []:=by
 rw[F22]at h
 refine zc a22 (by kernel_rfl) rfl (ww ?_)
 cases h
 exact eF []
end Go.Proofs.Ytedgocbpegllaaa
