/- For every input of bulk at most 1048576, CacheApplies returns true and leaves its arguments as they were. -/
import Derived.Test.YtdkmamiedcanfaaGreatAR
import Derived.Test.YtdkmamiedcanfaaGreatAQ
namespace Go.Proofs.YtdkmamiedcanfaaGreat
theorem cacheApplies_holds : Rows.CacheAppliesUptoSaid := CacheApplies_over CacheApplies_pure
end Go.Proofs.YtdkmamiedcanfaaGreat
