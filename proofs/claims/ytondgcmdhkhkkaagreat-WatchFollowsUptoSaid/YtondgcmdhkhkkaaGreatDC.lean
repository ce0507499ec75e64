/- For every input of bulk at most 1048576, WatchFollows returns true and leaves its arguments as they were. -/
import Derived.Test.YtondgcmdhkhkkaaGreatDR
import Derived.Test.YtondgcmdhkhkkaaGreatDQ
namespace Go.Proofs.YtondgcmdhkhkkaaGreat
theorem watchFollows_holds : Rows.WatchFollowsUptoSaid := WatchFollows_over WatchFollows_pure
end Go.Proofs.YtondgcmdhkhkkaaGreat
