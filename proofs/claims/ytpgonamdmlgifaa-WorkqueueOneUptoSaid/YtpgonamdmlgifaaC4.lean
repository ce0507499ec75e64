/- For every input of bulk at most 1048576, WorkqueueOne returns true and leaves its arguments as they were. -/
import Derived.Test.YtpgonamdmlgifaaR
import Derived.Test.YtpgonamdmlgifaaQ7
namespace Go.Proofs.Ytpgonamdmlgifaa
theorem workqueueOne_holds : Rows.WorkqueueOneUptoSaid := WorkqueueOne_over WorkqueueOne_pure
end Go.Proofs.Ytpgonamdmlgifaa
