/- For every input of bulk at most 1048576, ImageFrees returns true and leaves its arguments as they were. -/
import Derived.Test.YtncofnbldpfegaaR
import Derived.Test.YtncofnbldpfegaaQ2
namespace Go.Proofs.Ytncofnbldpfegaa
theorem imageFrees_holds : Rows.ImageFreesUptoSaid := ImageFrees_over ImageFrees_pure
end Go.Proofs.Ytncofnbldpfegaa
