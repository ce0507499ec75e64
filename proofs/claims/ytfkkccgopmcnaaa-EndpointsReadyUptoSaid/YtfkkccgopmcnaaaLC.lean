/- For every input of bulk at most 1048576, EndpointsReady returns true and leaves its arguments as they were. -/
import Derived.Test.YtfkkccgopmcnaaaLR
import Derived.Test.YtfkkccgopmcnaaaLQ
namespace Go.Proofs.Ytfkkccgopmcnaaa
theorem endpointsReady_holds : Rows.EndpointsReadyUptoSaid := EndpointsReady_over EndpointsReady_pure
end Go.Proofs.Ytfkkccgopmcnaaa
