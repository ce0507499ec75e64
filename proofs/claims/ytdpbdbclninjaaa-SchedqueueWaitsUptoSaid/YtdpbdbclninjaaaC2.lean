/- For every input of bulk at most 1048576, SchedqueueWaits returns true and leaves its arguments as they were. -/
import Derived.Test.YtdpbdbclninjaaaR
import Derived.Test.YtdpbdbclninjaaaQ3
namespace Go.Proofs.Ytdpbdbclninjaaa
theorem schedqueueWaits_holds : Rows.SchedqueueWaitsUptoSaid := SchedqueueWaits_over SchedqueueWaits_pure
end Go.Proofs.Ytdpbdbclninjaaa
