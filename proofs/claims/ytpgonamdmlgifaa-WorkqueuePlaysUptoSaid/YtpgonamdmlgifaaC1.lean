/- For every input of bulk at most 1048576, WorkqueuePlays returns true and leaves its arguments as they were. -/
import Derived.Test.YtpgonamdmlgifaaR
import Derived.Test.YtpgonamdmlgifaaQ6
namespace Go.Proofs.Ytpgonamdmlgifaa
theorem workqueuePlays_holds : Rows.WorkqueuePlaysUptoSaid := WorkqueuePlays_over WorkqueuePlays_pure
end Go.Proofs.Ytpgonamdmlgifaa
