/- For every input of bulk at most 1048576, LabelValid returns true and leaves its arguments as they were. -/
import Derived.Test.YtadhmlfnfgpjjaaAR
import Derived.Test.YtadhmlfnfgpjjaaAQ
namespace Go.Proofs.Ytadhmlfnfgpjjaa
theorem labelValid_holds : Rows.LabelValidUptoSaid := LabelValid_over LabelValid_pure
end Go.Proofs.Ytadhmlfnfgpjjaa
