/- For every input of bulk at most 1048576, WorkqueueInvariant returns true and leaves its arguments as they were. -/
import Derived.Test.YtpgonamdmlgifaaR
import Derived.Test.YtpgonamdmlgifaaQ6
namespace Go.Proofs.Ytpgonamdmlgifaa
theorem workqueueInvariant_holds : Rows.WorkqueueInvariantUptoSaid := WorkqueueInvariant_over WorkqueueInvariant_pure
end Go.Proofs.Ytpgonamdmlgifaa
