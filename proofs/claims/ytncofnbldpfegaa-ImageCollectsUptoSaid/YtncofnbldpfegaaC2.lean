/- For every input of bulk at most 1048576, ImageCollects returns true and leaves its arguments as they were. -/
import Derived.Test.YtncofnbldpfegaaR
import Derived.Test.YtncofnbldpfegaaQ2
namespace Go.Proofs.Ytncofnbldpfegaa
theorem imageCollects_holds : Rows.ImageCollectsUptoSaid := ImageCollects_over ImageCollects_pure
end Go.Proofs.Ytncofnbldpfegaa
