/- For every input of bulk at most 1048576, WatchExpires returns true and leaves its arguments as they were. -/
import Derived.Test.YtondgcmdhkhkkaaGreatER
import Derived.Test.YtondgcmdhkhkkaaGreatEQ
namespace Go.Proofs.YtondgcmdhkhkkaaGreat
theorem watchExpires_holds : Rows.WatchExpiresUptoSaid := WatchExpires_over WatchExpires_pure
end Go.Proofs.YtondgcmdhkhkkaaGreat
