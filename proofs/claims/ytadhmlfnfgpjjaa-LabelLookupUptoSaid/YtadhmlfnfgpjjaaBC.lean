/- For every input of bulk at most 1048576, LabelLookup returns true and leaves its arguments as they were. -/
import Derived.Test.YtadhmlfnfgpjjaaBR
import Derived.Test.YtadhmlfnfgpjjaaBQ
namespace Go.Proofs.Ytadhmlfnfgpjjaa
theorem labelLookup_holds : Rows.LabelLookupUptoSaid := LabelLookup_over LabelLookup_pure
end Go.Proofs.Ytadhmlfnfgpjjaa
