/- For every input of bulk at most 1048576, SchedqueueFair returns true and leaves its arguments as they were. -/
import Derived.Test.YtdpbdbclninjaaaR
import Derived.Test.YtdpbdbclninjaaaQ4
namespace Go.Proofs.Ytdpbdbclninjaaa
theorem schedqueueFair_holds : Rows.SchedqueueFairUptoSaid := SchedqueueFair_over SchedqueueFair_pure
end Go.Proofs.Ytdpbdbclninjaaa
