/- For every input of bulk at most 1048576, ExpectWants returns true and leaves its arguments as they were. -/
import Derived.Test.YtkgjaknjpdkaeaaR
import Derived.Test.YtkgjaknjpdkaeaaQ4
namespace Go.Proofs.Ytkgjaknjpdkaeaa
theorem expectWants_holds : Rows.ExpectWantsUptoSaid := ExpectWants_over ExpectWants_pure
end Go.Proofs.Ytkgjaknjpdkaeaa
