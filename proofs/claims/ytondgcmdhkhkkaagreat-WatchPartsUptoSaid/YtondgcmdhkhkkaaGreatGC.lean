/- For every input of bulk at most 1048576, WatchParts returns true and leaves its arguments as they were. -/
import Derived.Test.YtondgcmdhkhkkaaGreatGR
import Derived.Test.YtondgcmdhkhkkaaGreatGQ
namespace Go.Proofs.YtondgcmdhkhkkaaGreat
theorem watchParts_holds : Rows.WatchPartsUptoSaid := WatchParts_over WatchParts_pure
end Go.Proofs.YtondgcmdhkhkkaaGreat
