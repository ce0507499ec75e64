/- For every input of bulk at most 1048576, LabelMatches returns true and leaves its arguments as they were. -/
import Derived.Test.YtadhmlfnfgpjjaaCR
import Derived.Test.YtadhmlfnfgpjjaaCQ
namespace Go.Proofs.Ytadhmlfnfgpjjaa
theorem labelMatches_holds : Rows.LabelMatchesUptoSaid := LabelMatches_over LabelMatches_pure
end Go.Proofs.Ytadhmlfnfgpjjaa
