/- For every input of bulk at most 1048576, LabelEdits returns true and leaves its arguments as they were. -/
import Derived.Test.YtadhmlfnfgpjjaaDR
import Derived.Test.YtadhmlfnfgpjjaaDQ
namespace Go.Proofs.Ytadhmlfnfgpjjaa
theorem labelEdits_holds : Rows.LabelEditsUptoSaid := LabelEdits_over LabelEdits_pure
end Go.Proofs.Ytadhmlfnfgpjjaa
