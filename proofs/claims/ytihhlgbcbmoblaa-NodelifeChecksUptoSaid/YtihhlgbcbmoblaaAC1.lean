/- For every input of bulk at most 1048576, NodelifeChecks returns true and leaves its arguments as they were. -/
import Derived.Test.YtihhlgbcbmoblaaAR
import Derived.Test.YtihhlgbcbmoblaaAQ5
namespace Go.Proofs.Ytihhlgbcbmoblaa
theorem nodelifeChecks_holds : Rows.NodelifeChecksUptoSaid := NodelifeChecks_over NodelifeChecks_pure
end Go.Proofs.Ytihhlgbcbmoblaa
