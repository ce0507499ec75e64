/- For every input of bulk at most 1048576, CacheRepeats returns true and leaves its arguments as they were. -/
import Derived.Test.YtdkmamiedcanfaaGreatBR
import Derived.Test.YtdkmamiedcanfaaGreatBQ
namespace Go.Proofs.YtdkmamiedcanfaaGreat
theorem cacheRepeats_holds : Rows.CacheRepeatsUptoSaid := CacheRepeats_over CacheRepeats_pure
end Go.Proofs.YtdkmamiedcanfaaGreat
