/- For every input of bulk at most 1048576, NodelifeRecovers returns true and leaves its arguments as they were. -/
import Derived.Test.YtihhlgbcbmoblaaCR
import Derived.Test.YtihhlgbcbmoblaaCQ4
namespace Go.Proofs.Ytihhlgbcbmoblaa
theorem nodelifeRecovers_holds : Rows.NodelifeRecoversUptoSaid := NodelifeRecovers_over NodelifeRecovers_pure
end Go.Proofs.Ytihhlgbcbmoblaa
