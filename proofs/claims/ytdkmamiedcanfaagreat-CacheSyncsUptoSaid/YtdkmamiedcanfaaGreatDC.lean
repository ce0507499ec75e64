/- For every input of bulk at most 1048576, CacheSyncs returns true and leaves its arguments as they were. -/
import Derived.Test.YtdkmamiedcanfaaGreatDR
import Derived.Test.YtdkmamiedcanfaaGreatDQ
namespace Go.Proofs.YtdkmamiedcanfaaGreat
theorem cacheSyncs_holds : Rows.CacheSyncsUptoSaid := CacheSyncs_over K1
end Go.Proofs.YtdkmamiedcanfaaGreat
