/- For every input of bulk at most 1048576, LabelParses returns true and leaves its arguments as they were. -/
import Derived.Test.YtadhmlfnfgpjjaaPR
import Derived.Test.YtadhmlfnfgpjjaaPQ
namespace Go.Proofs.Ytadhmlfnfgpjjaa
theorem labelParses_holds : Rows.LabelParsesUptoSaid := LabelParses_over LabelParses_pure
end Go.Proofs.Ytadhmlfnfgpjjaa
