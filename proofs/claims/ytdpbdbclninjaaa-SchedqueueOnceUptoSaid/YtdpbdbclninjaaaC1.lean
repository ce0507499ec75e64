/- For every input of bulk at most 1048576, SchedqueueOnce returns true and leaves its arguments as they were. -/
import Derived.Test.YtdpbdbclninjaaaR
import Derived.Test.YtdpbdbclninjaaaQ2
namespace Go.Proofs.Ytdpbdbclninjaaa
theorem schedqueueOnce_holds : Rows.SchedqueueOnceUptoSaid := SchedqueueOnce_over SchedqueueOnce_pure
end Go.Proofs.Ytdpbdbclninjaaa
