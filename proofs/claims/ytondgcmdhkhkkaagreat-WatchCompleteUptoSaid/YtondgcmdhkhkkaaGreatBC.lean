/- For every input of bulk at most 1048576, WatchComplete returns true and leaves its arguments as they were. -/
import Derived.Test.YtondgcmdhkhkkaaGreatBR
import Derived.Test.YtondgcmdhkhkkaaGreatBQ
namespace Go.Proofs.YtondgcmdhkhkkaaGreat
theorem watchComplete_holds : Rows.WatchCompleteUptoSaid := WatchComplete_over WatchComplete_pure
end Go.Proofs.YtondgcmdhkhkkaaGreat
