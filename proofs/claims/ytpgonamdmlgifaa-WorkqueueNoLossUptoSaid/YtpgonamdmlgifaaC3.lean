/- For every input of bulk at most 1048576, WorkqueueNoLoss returns true and leaves its arguments as they were. -/
import Derived.Test.YtpgonamdmlgifaaR
import Derived.Test.YtpgonamdmlgifaaQ7
namespace Go.Proofs.Ytpgonamdmlgifaa
theorem workqueueNoLoss_holds : Rows.WorkqueueNoLossUptoSaid := WorkqueueNoLoss_over WorkqueueNoLoss_pure
end Go.Proofs.Ytpgonamdmlgifaa
