/- For every input of bulk at most 1048576, CacheTells returns true and leaves its arguments as they were. -/
import Derived.Test.YtdkmamiedcanfaaGreatGR
import Derived.Test.YtdkmamiedcanfaaGreatGQ
namespace Go.Proofs.YtdkmamiedcanfaaGreat
theorem cacheTells_holds : Rows.CacheTellsUptoSaid := CacheTells_over K0
end Go.Proofs.YtdkmamiedcanfaaGreat
