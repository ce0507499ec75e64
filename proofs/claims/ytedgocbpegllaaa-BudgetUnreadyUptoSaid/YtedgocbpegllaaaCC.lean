/- For every input of bulk at most 1048576, BudgetUnready returns true and leaves its arguments as they were. -/
import Derived.Test.YtedgocbpegllaaaCR
import Derived.Test.YtedgocbpegllaaaCQ
namespace Go.Proofs.Ytedgocbpegllaaa
theorem budgetUnready_holds : Rows.BudgetUnreadyUptoSaid := BudgetUnready_over BudgetUnready_pure
end Go.Proofs.Ytedgocbpegllaaa
