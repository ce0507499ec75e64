/- For every input of bulk at most 1048576, EndpointsDiffs returns true and leaves its arguments as they were. -/
import Derived.Test.YtfkkccgopmcnaaaAR
import Derived.Test.YtfkkccgopmcnaaaAQ
namespace Go.Proofs.Ytfkkccgopmcnaaa
theorem endpointsDiffs_holds : Rows.EndpointsDiffsUptoSaid := EndpointsDiffs_over EndpointsDiffs_pure
end Go.Proofs.Ytfkkccgopmcnaaa
