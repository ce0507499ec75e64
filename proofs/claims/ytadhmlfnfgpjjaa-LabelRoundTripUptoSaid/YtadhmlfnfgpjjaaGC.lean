/- For every input of bulk at most 1048576, LabelRoundTrip returns true and leaves its arguments as they were. -/
import Derived.Test.YtadhmlfnfgpjjaaGR
import Derived.Test.YtadhmlfnfgpjjaaGQ
namespace Go.Proofs.Ytadhmlfnfgpjjaa
theorem labelRoundTrip_holds : Rows.LabelRoundTripUptoSaid := LabelRoundTrip_over LabelRoundTrip_pure
end Go.Proofs.Ytadhmlfnfgpjjaa
