/- For every input of bulk at most 1048576, LabelNarrows returns true and leaves its arguments as they were. -/
import Derived.Test.YtadhmlfnfgpjjaaHR
import Derived.Test.YtadhmlfnfgpjjaaHQ
namespace Go.Proofs.Ytadhmlfnfgpjjaa
theorem labelNarrows_holds : Rows.LabelNarrowsUptoSaid := LabelNarrows_over LabelNarrows_pure
end Go.Proofs.Ytadhmlfnfgpjjaa
