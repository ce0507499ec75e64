/- For every input of bulk at most 1048576, SchedqueuePlays returns true and leaves its arguments as they were. -/
import Derived.Test.YtdpbdbclninjaaaR
import Derived.Test.YtdpbdbclninjaaaQ6
namespace Go.Proofs.Ytdpbdbclninjaaa
theorem schedqueuePlays_holds : Rows.SchedqueuePlaysUptoSaid := SchedqueuePlays_over SchedqueuePlays_pure
end Go.Proofs.Ytdpbdbclninjaaa
