/- For every input of bulk at most 1048576, NodelifeLeaves returns true and leaves its arguments as they were. -/
import Derived.Test.YtihhlgbcbmoblaaBR
import Derived.Test.YtihhlgbcbmoblaaBQ5
namespace Go.Proofs.Ytihhlgbcbmoblaa
theorem nodelifeLeaves_holds : Rows.NodelifeLeavesUptoSaid := NodelifeLeaves_over NodelifeLeaves_pure
end Go.Proofs.Ytihhlgbcbmoblaa
