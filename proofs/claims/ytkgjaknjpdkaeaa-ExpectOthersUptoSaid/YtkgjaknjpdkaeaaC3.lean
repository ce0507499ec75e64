/- For every input of bulk at most 1048576, ExpectOthers returns true and leaves its arguments as they were. -/
import Derived.Test.YtkgjaknjpdkaeaaR
import Derived.Test.YtkgjaknjpdkaeaaQ5
namespace Go.Proofs.Ytkgjaknjpdkaeaa
theorem expectOthers_holds : Rows.ExpectOthersUptoSaid := ExpectOthers_over ExpectOthers_pure
end Go.Proofs.Ytkgjaknjpdkaeaa
