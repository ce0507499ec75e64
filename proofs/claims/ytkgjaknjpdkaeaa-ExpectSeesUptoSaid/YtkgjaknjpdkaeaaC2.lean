/- For every input of bulk at most 1048576, ExpectSees returns true and leaves its arguments as they were. -/
import Derived.Test.YtkgjaknjpdkaeaaR
import Derived.Test.YtkgjaknjpdkaeaaQ4
namespace Go.Proofs.Ytkgjaknjpdkaeaa
theorem expectSees_holds : Rows.ExpectSeesUptoSaid := ExpectSees_over ExpectSees_pure
end Go.Proofs.Ytkgjaknjpdkaeaa
