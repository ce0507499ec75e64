/- For every input of bulk at most 1048576, LabelPrints returns true and leaves its arguments as they were. -/
import Derived.Test.YtadhmlfnfgpjjaaER
import Derived.Test.YtadhmlfnfgpjjaaEQ
namespace Go.Proofs.Ytadhmlfnfgpjjaa
theorem labelPrints_holds : Rows.LabelPrintsUptoSaid := LabelPrints_over LabelPrints_pure
end Go.Proofs.Ytadhmlfnfgpjjaa
