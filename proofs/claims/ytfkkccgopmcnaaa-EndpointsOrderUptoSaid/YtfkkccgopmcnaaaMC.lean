/- For every input of bulk at most 1048576, EndpointsOrder returns true and leaves its arguments as they were. -/
import Derived.Test.YtfkkccgopmcnaaaMR
import Derived.Test.YtfkkccgopmcnaaaMQ
namespace Go.Proofs.Ytfkkccgopmcnaaa
theorem endpointsOrder_holds : Rows.EndpointsOrderUptoSaid := EndpointsOrder_over EndpointsOrder_pure
end Go.Proofs.Ytfkkccgopmcnaaa
