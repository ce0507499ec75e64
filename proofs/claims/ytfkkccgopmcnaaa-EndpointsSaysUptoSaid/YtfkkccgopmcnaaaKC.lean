/- For every input of bulk at most 1048576, EndpointsSays returns true and leaves its arguments as they were. -/
import Derived.Test.YtfkkccgopmcnaaaKR
import Derived.Test.YtfkkccgopmcnaaaKQ
namespace Go.Proofs.Ytfkkccgopmcnaaa
theorem endpointsSays_holds : Rows.EndpointsSaysUptoSaid := EndpointsSays_over EndpointsSays_pure
end Go.Proofs.Ytfkkccgopmcnaaa
