/- For every input of bulk at most 1048576, ExpectSettles returns true and leaves its arguments as they were. -/
import Derived.Test.YtkgjaknjpdkaeaaR
import Derived.Test.YtkgjaknjpdkaeaaQ6
namespace Go.Proofs.Ytkgjaknjpdkaeaa
theorem expectSettles_holds : Rows.ExpectSettlesUptoSaid := ExpectSettles_over ExpectSettles_pure
end Go.Proofs.Ytkgjaknjpdkaeaa
