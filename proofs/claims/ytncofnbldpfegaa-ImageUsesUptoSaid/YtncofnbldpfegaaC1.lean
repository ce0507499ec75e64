/- For every input of bulk at most 1048576, ImageUses returns true and leaves its arguments as they were. -/
import Derived.Test.YtncofnbldpfegaaR
import Derived.Test.YtncofnbldpfegaaQ
namespace Go.Proofs.Ytncofnbldpfegaa
theorem imageUses_holds : Rows.ImageUsesUptoSaid := ImageUses_over ImageUses_pure
end Go.Proofs.Ytncofnbldpfegaa
