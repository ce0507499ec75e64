/- For every input of bulk at most 1048576, CacheConverges returns true and leaves its arguments as they were. -/
import Derived.Test.YtdkmamiedcanfaaGreatER
import Derived.Test.YtdkmamiedcanfaaGreatEQ
namespace Go.Proofs.YtdkmamiedcanfaaGreat
theorem cacheConverges_holds : Rows.CacheConvergesUptoSaid := CacheConverges_over CacheConverges_pure
end Go.Proofs.YtdkmamiedcanfaaGreat
