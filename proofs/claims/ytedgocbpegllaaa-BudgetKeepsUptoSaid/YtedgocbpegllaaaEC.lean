/- For every input of bulk at most 1048576, BudgetKeeps returns true and leaves its arguments as they were. -/
import Derived.Test.YtedgocbpegllaaaER
import Derived.Test.YtedgocbpegllaaaEQ
namespace Go.Proofs.Ytedgocbpegllaaa
theorem budgetKeeps_holds : Rows.BudgetKeepsUptoSaid := BudgetKeeps_over BudgetKeeps_pure
end Go.Proofs.Ytedgocbpegllaaa
