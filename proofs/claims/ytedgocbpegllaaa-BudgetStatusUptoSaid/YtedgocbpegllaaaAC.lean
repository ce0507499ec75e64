/- For every input of bulk at most 1048576, BudgetStatus returns true and leaves its arguments as they were. -/
import Derived.Test.YtedgocbpegllaaaAR
import Derived.Test.YtedgocbpegllaaaAQ
namespace Go.Proofs.Ytedgocbpegllaaa
theorem budgetStatus_holds : Rows.BudgetStatusUptoSaid := BudgetStatus_over BudgetStatus_pure
end Go.Proofs.Ytedgocbpegllaaa
