/- For every input of bulk at most 1048576, BudgetNumbers returns true and leaves its arguments as they were. -/
import Derived.Test.YtedgocbpegllaaaBR
import Derived.Test.YtedgocbpegllaaaBQ
namespace Go.Proofs.Ytedgocbpegllaaa
theorem budgetNumbers_holds : Rows.BudgetNumbersUptoSaid := BudgetNumbers_over BudgetNumbers_pure
end Go.Proofs.Ytedgocbpegllaaa
