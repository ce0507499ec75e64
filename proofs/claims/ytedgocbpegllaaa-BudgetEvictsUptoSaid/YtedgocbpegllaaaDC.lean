/- For every input of bulk at most 1048576, BudgetEvicts returns true and leaves its arguments as they were. -/
import Derived.Test.YtedgocbpegllaaaDR
import Derived.Test.YtedgocbpegllaaaDQ
namespace Go.Proofs.Ytedgocbpegllaaa
theorem budgetEvicts_holds : Rows.BudgetEvictsUptoSaid := BudgetEvicts_over BudgetEvicts_pure
end Go.Proofs.Ytedgocbpegllaaa
