/- For every input of bulk at most 1048576, WatchSays returns true and leaves its arguments as they were. -/
import Derived.Test.YtondgcmdhkhkkaaGreatAR
import Derived.Test.YtondgcmdhkhkkaaGreatAQ
namespace Go.Proofs.YtondgcmdhkhkkaaGreat
theorem watchSays_holds : Rows.WatchSaysUptoSaid := WatchSays_over WatchSays_pure
end Go.Proofs.YtondgcmdhkhkkaaGreat
