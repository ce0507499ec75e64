/- For every input of bulk at most 1048576, ImageKeepsUsed returns true and leaves its arguments as they were. -/
import Derived.Test.YtncofnbldpfegaaR
import Derived.Test.YtncofnbldpfegaaQ2
namespace Go.Proofs.Ytncofnbldpfegaa
theorem imageKeepsUsed_holds : Rows.ImageKeepsUsedUptoSaid := ImageKeepsUsed_over ImageKeepsUsed_pure
end Go.Proofs.Ytncofnbldpfegaa
